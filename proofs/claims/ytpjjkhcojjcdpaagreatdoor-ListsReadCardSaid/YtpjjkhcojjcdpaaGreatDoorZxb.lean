/- Plain: the law ListsRead is true for every list of numbers. -/
import Derived.Test.YtpjjkhcojjcdpaaGreatDoorZpdZx
import Derived.Test.YtpjjkhcojjcdpaaGreatDoorCkZx
namespace Go.Proofs.YtpjjkhcojjcdpaaGreatDoor
set_option linter.unusedVariables false
set_option maxRecDepth 20000
def wrdB (s:Bs):Bool:=tokB (Lib.cut s [47]).1 && (!(Lib.cut s [47]).2.2 || tokB (Lib.cut s [47]).2.1)
theorem y7k (s:Bs) (h:s.length≤1000000):z09 s=some (wrdB s):=by
 have hc:=z7f s 47
 unfold z09 Zp uc wrdB
 rw [if_pos (by omega)]
 simp only [Option.bind_some]
 rw [z1y _ (by omega),z1y _ (by omega)]
 simp only [Option.bind_some]
 cases tokB (Lib.cut s [47]).1 <;> cases (Lib.cut s [47]).2.2 <;> simp
theorem z7x (s:Bs) (h:s.length≤1000000):Wi s=some (wrdB s):=by
 have hc:=z7f s 47
 unfold Wi Yk uc wrdB
 rw [if_pos (by omega)]
 simp only [Option.bind_some]
 rw [uo _ (by omega),uo _ (by omega)]
 simp only [Option.bind_some]
 cases tokB (Lib.cut s [47]).1 <;> cases (Lib.cut s [47]).2.2 <;> simp
theorem z2z {s:Bs} (h:s.all (fun c=>tokL.contains c)=true):(47:UInt8) ∉ s:=fun hm=>by
 have:=List.all_eq_true.1 h 47 hm
 exact absurd this (by decide)
theorem z8d (cs p t:Bs) (h:∀ c,c∈p→cs.contains c=false):up cs (p++t)=p++up cs t∧dn cs (p++t)=dn cs t:=by
 induction p with
 | nil=>exact ⟨rfl,rfl⟩
 | cons c l ih =>
  have h1:=ih fun x hx=>h x (List.mem_cons_of_mem _ hx)
  have h2:=h c (by simp)
  unfold up dn at *
  rw [List.cons_append,List.takeWhile_cons,List.dropWhile_cons,h2]
  simp only [Bool.not_false,if_true]
  exact ⟨by rw [h1.1]; rfl,h1.2⟩
theorem z8c (cs:Bs) (c:UInt8) (t:Bs):(cs.contains c=true→up cs (c::t)=[]∧dn cs (c::t)=c::t)∧(cs.contains c=false→up cs (c::t)=c::up cs t∧dn cs (c::t)=dn cs t):=by
 unfold up dn
 rw [List.takeWhile_cons,List.dropWhile_cons]
 constructor
 ·intro h; rw [h]; exact ⟨rfl,rfl⟩
 ·intro h; rw [h]; exact ⟨rfl,rfl⟩
theorem z8k (t:Bs):∀ c,c∈tk t→csI.contains c=false:=fun c hc=>by
 have:=List.all_eq_true.1 (uq t) c hc
 cases h:csI.contains c
 ·rfl
 ·rw [z7g c h] at this; cases this
def pwS (t:Bs):Bs×Bs×Bool:=
 if (td t).head?=some 47 then (tk t++47::tk (td t).tail,td (td t).tail,!tokB (tk t) || !tokB (tk (td t).tail)) else (tk t,td t,!tokB (tk t))
theorem z7u {p:Bs} (h:p.all (fun c=>tokL.contains c)=true):wrdB p=tokB p:=by
 unfold wrdB
 rw [y09 47 p (z2z h)]
 simp
theorem z44 {p:Bs} (q:Bs) (h:p.all (fun c=>tokL.contains c)=true):wrdB (p++47::q)=(tokB p && tokB q):=by
 unfold wrdB
 rw [y1a 47 p q (z2z h)]
 simp
theorem z5f {p:Bs} (d:UInt8) (q:Bs) (hd:tokL.contains d=false):tokB (p++d::q)=false:=by
 unfold tokB
 have:(p++d::q).all (fun c=>tokL.contains c)=false:=by
  rw [List.all_append,List.all_cons,hd]; simp
 rw [this]; rfl
theorem y1w (t:Bs):(wrdB (up csI t)=true∧pwS t=(up csI t,dn csI t,false))∨(wrdB (up csI t)=false∧((pwS t).2.2=true∨∃ d r,(pwS t).2.1=d::r∧csI.contains d=false)):=by
 have e:=z0l t
 have ha:=z8d csI (tk t) (td t) (z8k t)
 rw [e] at ha
 unfold pwS
 cases hd:td t with
 | nil =>
  rw [hd] at ha
  have h1:up csI t=tk t:=by rw [ha.1]; simp [up]
  have h2:dn csI t=[]:=ha.2
  rw [h1,h2,z7u (uq t)]
  cases hb:tokB (tk t)
  ·right; exact ⟨rfl,.inl (by simp)⟩
  ·left; simp
 | cons d r =>
  have hdt:=z5g t hd
  rw [hd] at ha
  have hc:=z8c csI d r
  cases hcd:csI.contains d
  ·by_cases h47:d=47
   ·subst h47
    simp only [List.head?_cons,if_true,List.tail_cons]
    have e2:=z0l r
    have ha2:=z8d csI (tk r) (td r) (z8k r)
    rw [e2] at ha2
    have hh:=hc.2 hcd
    rw [ha.1,ha.2,hh.1,hh.2,ha2.1,ha2.2]
    cases hd2:td r with
    | nil =>
     rw [show up csI []=[] from rfl,show dn csI []=[] from rfl,List.append_nil,z44 _ (uq t)]
     cases tokB (tk t) <;> cases tokB (tk r) <;> simp
    | cons f r2 =>
     have hft:=z5g r hd2
     have hc2:=z8c csI f r2
     cases hcf:csI.contains f
     ·rw [(hc2.2 hcf).1]
      right
      refine ⟨?_,.inr ⟨f,r2,rfl,hcf⟩⟩
      rw [z44 _ (uq t),z5f f _ hft,Bool.and_false]
     ·rw [(hc2.1 hcf).1,(hc2.1 hcf).2,List.append_nil,z44 _ (uq t)]
      cases tokB (tk t) <;> cases tokB (tk r) <;> simp
   ·rw [if_neg (by simpa using h47)]
    right
    refine ⟨?_,.inr ⟨d,r,rfl,hcd⟩⟩
    have hh:=hc.2 hcd
    rw [ha.1,hh.1]
    rcases y02 47 (up csI r) with hn | ⟨p,q,hpq,hp⟩
    ·have:(47:UInt8) ∉ tk t++d::up csI r:=by
      intro hm
      rcases List.mem_append.1 hm with h | h
      ·exact z2z (uq t) h
      ·rcases List.mem_cons.1 h with h | h
       ·exact h47 h.symm
       ·exact hn h
     unfold wrdB
     rw [y09 47 _ this]
     simp [z5f d _ hdt]
    ·rw [hpq]
     have:(47:UInt8) ∉ tk t++d::p:=by
      intro hm
      rcases List.mem_append.1 hm with h | h
      ·exact z2z (uq t) h
      ·rcases List.mem_cons.1 h with h | h
       ·exact h47 h.symm
       ·exact hp h
     unfold wrdB
     rw [show tk t++d::(p++47::q)=(tk t++d::p)++47::q from by simp,y1a 47 _ q this]
     simp [z5f d _ hdt]
  ·have h47:¬ d=47:=fun e=>by subst e; exact absurd hcd (by decide)
   rw [if_neg (by simpa using h47)]
   have hh:=hc.1 hcd
   rw [ha.1,ha.2,hh.1,hh.2,List.append_nil,z7u (uq t)]
   cases hb:tokB (tk t)
   ·right; exact ⟨rfl,.inl (by simp)⟩
   ·left; simp
theorem z9h (t:Bs):(pwS t).2.1 <:+ t∧(pwS t).1.length≤t.length:=by
 unfold pwS
 have e:=congrArg List.length (z0l t)
 rw [List.length_append] at e
 split
 ·rename_i h
  refine ⟨((Zb _).trans (List.tail_suffix _)).trans (Zb t),?_⟩
  have h2:=z0m (td t).tail
  cases hd:td t with
  | nil=>rw [hd] at h; cases h
  | cons c r =>
   rw [hd] at e h2
   simp only [List.tail_cons,List.length_cons,List.length_append] at e h2 ⊢
   omega
 ·exact ⟨Zb t,z0m t⟩
theorem y7i {s t:Bs} (hs:s.length≤1000000) (h:t <:+ s):Wc (zm.mk s (pS s t) false)=Zl s (pS s (pwS t).2.1) (pwS t).2.2 (pwS t).1:=by
 have hl:=qo h
 have htd:td t <:+ s:=(Zb t).trans h
 have hps:=z9h t
 unfold Wc
 rw [Yd hs false h]
 simp only [Option.bind_some,Bool.false_or]
 rw [kf hs _ htd 47 47 rfl]
 simp only [Option.bind_some]
 unfold pwS at hps ⊢
 by_cases h2:(td t).head?=some 47
 ·rw [if_pos h2] at hps ⊢
  rw [decide_eq_true h2,if_pos rfl,show ifh 47 (td t)=(td t).tail from if_pos h2]
  have htl:(td t).tail <:+ s:=(List.tail_suffix _).trans htd
  rw [Yd hs _ htl]
  simp only [Option.bind_some]
  have hp2:=hps.2
  simp only [List.length_append,List.length_cons] at hp2
  rw [if_pos (by simp; omega),if_pos (by simp; omega)]
  rfl
 ·rw [if_neg h2]
  rw [decide_eq_false h2,show ifh 47 (td t)=td t from if_neg h2]
  simp
noncomputable abbrev pB (words:Bs):=fun (q:Bool×(List zt)×Bs×Int×Bool×Int)=>uz words q.1 q.2.1 q.2.2.1 q.2.2.2.1 q.2.2.2.2.1 q.2.2.2.2.2
noncomputable abbrev rB:=fun (q:(List zt)×Bs×Bs×Int×Bool)=>Ww q.1 q.2.1 q.2.2.1 q.2.2.2.1 q.2.2.2.2
theorem z5p (words s:Bs) (told:Bool) (l:List zt) (i q:Int):iter (pB words) (told,l,s,i,true,q)=some (zg.mk words l q,zm.mk s i true):=qk (body:=pB words) rfl
theorem z5o {s t:Bs} (hs:s.length≤1000000) (h:t <:+ s) (words:Bs) (told:Bool) (l:List zt) (q:Int) (hn:t.head?≠some 59):iter (pB words) (told,l,s,pS s t,false,q)=some (zg.mk words l q,zm.mk s (pS s t) false):=by
 refine qk (body:=pB words) ?_
 show uz words told l s (pS s t) false q=_
 unfold uz
 rw [kf hs false h 59 59 rfl]
 simp only [Bool.not_false,if_true,Option.bind_some]
 rw [decide_eq_false hn,show ifh 59 t=t from if_neg hn]
 rfl
theorem y7q {s r1:Bs} (hs:s.length≤1000000) (h:59::r1 <:+ s) (words:Bs) (told:Bool) (l:List zt) (q:Int):pB words (told,l,s,pS s (59::r1),false,q)=kq words told l q true s (pS s r1) false:=by
 show uz words told l s (pS s (59::r1)) false q=_
 unfold uz
 rw [kf hs false h 59 59 rfl]
 simp [ifh]
theorem y4q {s:Bs} (hs:s.length≤1000000) (ha:ascB s=true) (words:Bs):∀ (n:Nat) (t0:Bs) (l:List zt) (q:Int) (told:Bool),t0.length≤n→t0 <:+ s→l.length+t0.length≤10000000 →
  ∃ it it' rb b t t',iter (pB words) (told,l,s,pS s (trL 32 t0),false,q)=some (it,zm.mk s (pS s t) b)∧iter rB (l,t0,words,q,told)=some (it',rb,yb.mk t')∧t <:+ t0 ∧
   ((rb=true∧b=false∧it'=it∧t'=t∧it.Words=words)∨(rb=false∧(b=true∨∃ d r,t=d::r∧csI.contains d=false))):=by
 intro n
 induction n using Nat.strongRecOn with
 | _ n ih =>
  intro t0 l q told hn h hl
  have hT0:=wh 32 t0
  have hT:=hT0.trans h
  have hlen:=qo h
  have hTl:=qo hT0
  have hR:rB (l,t0,words,q,told)=if (trL 32 t0).head?=some 59 then ((sub? (trL 32 t0) 1 ((trL 32 t0).length:Int)).bind fun (l18:Bs)=>(xf (yb.mk l18) (zg.mk words l q) told).bind fun (r20:(Bool×yb×zg×Bool))=>if !r20.1 then (some (.inr (r20.2.2.1,false,r20.2.1))) else (some (.inl (r20.2.2.1.Params,r20.2.1.s_,r20.2.2.1.Words,r20.2.2.1.Quality,r20.2.2.2)))) else some (.inr (zg.mk words l q,true,yb.mk (trL 32 t0))):=by
   show Ww l t0 words q told=_
   unfold Ww
   rw [xr t0 (by omega)]
   simp only [Option.bind_some]
   rw [hp1 59]
   simp only [Option.bind_some]
   by_cases h9:(trL 32 t0).head?=some 59
   ·rw [decide_eq_true h9,if_pos h9]; rfl
   ·rw [decide_eq_false h9,if_neg h9]; rfl
  by_cases h9:(trL 32 t0).head?=some 59
  ·rw [if_pos h9,z0n _ 59 h9] at hR
   simp only [Option.bind_some] at hR
   obtain ⟨r1,hr1⟩:∃ r1,trL 32 t0=59::r1:=by
    cases hh:trL 32 t0 with
    | nil=>rw [hh] at h9; cases h9
    | cons c r=>rw [hh] at h9; simp at h9; exact ⟨r,by rw [h9]⟩
   rw [hr1] at hT hT0 hR hTl ⊢
   simp only [List.tail_cons] at hR
   simp only [List.length_cons] at hTl
   have hr:r1 <:+ s:=ut hT
   have hr0:r1 <:+ t0:=(List.suffix_cons _ _).trans hT0
   have hP:=y7q hs hT words told l q
   cases hps:parS (trL 32 r1) with
   | none =>
    obtain ⟨a,b,c,d,e,f1,f2,f3,f4⟩:=y7e hs hr words told l q (by omega) hps
    rw [f3] at hP
    obtain ⟨rd,x',b',g⟩:=y4s r1 (zg.mk words l q) told (Yy ha hr) (by omega) hps
    rw [g] at hR
    simp only [Option.bind_some] at hR
    have hRo:=qk (body:=rB) hR
    have hc:c <:+ s:=f1.trans hr
    refine ⟨zg.mk words b e,x',false,d,c,rd.s_,?_,hRo,f1.trans hr0,.inr ⟨rfl,f4⟩⟩
    refine (qp (body:=pB words) hP).trans ?_
    cases d with
    | true=>exact z5p words s a b (pS s c) e
    | false =>
     rcases f4 with f4 | ⟨x,y,f4,f5⟩
     ·cases f4
     ·refine z5o hs hc words a b e fun h => ?_
      rw [f4] at h
      have:x=59:=by simpa using h
      subst this
      exact absurd f5 (by decide)
   | some p =>
    obtain ⟨nm,v,qt,rest⟩:=p
    have hsf:=y4t _ hps
    have h32:=wh 32 r1
    have hrest:rest <:+ r1:=hsf.1.trans h32
    have hrl:=qo hrest
    have hvl:v.length≤1000000:=by have:=qo (h32.trans hr); omega
    obtain ⟨qv,q1,q2⟩:=z5z v hvl
    have hj:=y7d hs hr words told l q (by omega) hps qv q1
    rw [hj] at hP
    have hg:=y4r r1 (zg.mk words l q) told (Yy ha hr) (by omega) (by simp only; omega) hps qv q2
    rw [hg] at hR
    simp only [Option.bind_some] at hR
    cases hqn:qsN nm
    ·rw [hqn] at hP hR
     simp only [Bool.false_eq_true,if_false] at hP
     simp only [Bool.false_eq_true,if_false,Bool.not_true] at hR
     obtain ⟨it,it',rb,b,t,t',k1,k2,k3,k4⟩:=ih rest.length (by omega) rest (l++[zt.mk nm v]) q told (Nat.le_refl _) (hrest.trans hr) (by simp; omega)
     exact ⟨it,it',rb,b,t,t',(qp (body:=pB words) hP).trans k1,(qp (body:=rB) hR).trans k2,(k3.trans hrest).trans hr0,k4⟩
    ·rw [hqn] at hP hR
     simp only [if_true] at hP
     simp only [if_true] at hR
     cases hok:(qv.2 && (!told)) && (!qt)
     ·have hb:((told || qt) || (!qv.2))=true:=by
       cases told <;> cases qt <;> cases h5:qv.2 <;> simp [h5] at hok ⊢
      rw [hb] at hP
      rw [hok] at hR
      simp only [Bool.not_false,if_true] at hR
      exact ⟨_,_,false,true,trL 32 rest,_,(qp (body:=pB words) hP).trans (z5p _ _ _ _ _ _),qk (body:=rB) hR,((wh 32 rest).trans hrest).trans hr0,.inr ⟨rfl,.inl rfl⟩⟩
     ·have hb:((told || qt) || (!qv.2))=false:=by
       cases told <;> cases qt <;> cases h5:qv.2 <;> simp [h5] at hok ⊢
      rw [hb] at hP
      rw [hok] at hR
      simp only [Bool.not_true,Bool.false_eq_true,if_false] at hR
      obtain ⟨it,it',rb,b,t,t',k1,k2,k3,k4⟩:=ih rest.length (by omega) rest l qv.1 true (Nat.le_refl _) (hrest.trans hr) (by omega)
      exact ⟨it,it',rb,b,t,t',(qp (body:=pB words) hP).trans k1,(qp (body:=rB) hR).trans k2,(k3.trans hrest).trans hr0,k4⟩
  ·rw [if_neg h9] at hR
   exact ⟨_,_,true,false,trL 32 t0,_,z5o hs hT words told l q h9,qk (body:=rB) hR,hT0,.inl ⟨rfl,rfl,rfl,rfl,rfl⟩⟩
def wOK (x:zg):Prop:=ascB x.Words=true∧x.Words.length≤1000000
theorem y7h {s t:Bs} (hs:s.length≤1000000) (ha:ascB s=true) (h:t <:+ s) :
  ∃ it it' rb b t1 t',Wc (zm.mk s (pS s t) false)=some (it,zm.mk s (pS s t1) b)∧z1i (yb.mk t)=some (it',rb,yb.mk t')∧t1 <:+ t ∧
   ((rb=true∧b=false∧it'=it∧t'=t1∧t1.length < t.length∧wOK it)∨(rb=false∧(b=true∨∃ d r,t1=d::r∧csI.contains d=false))):=by
 have hl:=qo h
 have hta:=Yy ha h
 rw [y7i hs h]
 have hpw:=z9h t
 have hsp:(pwS t).2.1 <:+ s:=hpw.1.trans h
 have hU:js (yb.mk t) [44,59,32]=some (up csI t,yb.mk (dn csI t)):=z0i t csI hta (by omega) (by decide) (by decide)
 have hul:=xu csI t
 unfold z1i Zl
 rw [hU,Ze hs _ hsp]
 simp only [Option.bind_some]
 rw [z7x _ (by omega)]
 simp only [Option.bind_some]
 rcases y1w t with ⟨w1,w2⟩ | ⟨w1,w2⟩
 ·rw [w1,w2]
  simp only [Bool.not_true,Bool.false_eq_true,if_false]
  have hds:=Yw csI t
  have hdl:=qo hds
  obtain ⟨it,it',rb,b,t1,t',k1,k2,k3,k4⟩:=y4q hs ha (up csI t) (dn csI t).length (dn csI t) [] 1000 false (Nat.le_refl _) (hds.trans h) (by simp; omega)
  refine ⟨it,it',rb,b,t1,t',k1,k2,k3.trans hds,?_⟩
  rcases k4 with ⟨a1,a2,a3,a4,a5⟩ | k4
  ·refine .inl ⟨a1,a2,a3,a4,?_,?_⟩
   ·have hne:up csI t≠[]:=by
     intro e; rw [e] at w1; exact absurd w1 (by decide)
    have e:=congrArg List.length (z8b csI t)
    rw [List.length_append] at e
    have h2:=qo k3
    have:1≤(up csI t).length:=by
     cases hh:up csI t with
     | nil=>exact absurd hh hne
     | cons a b=>simp
    omega
   ·unfold wOK
    rw [a5]
    exact ⟨y1k hta y11,by omega⟩
  ·exact .inr k4
 ·rw [w1]
  simp only [Bool.not_false,if_true]
  cases hb:(pwS t).2.2
  ·rw [hb] at w2
   rcases w2 with w2 | ⟨d,r,w2,w3⟩
   ·cases w2
   ·have e1:trL 32 (pwS t).2.1=(pwS t).2.1:=by
     refine z5d 32 _ fun hh => ?_
     rw [w2] at hh
     have:d=32:=by simpa using hh
     subst this
     exact absurd w3 (by decide)
    rw [e1]
    refine ⟨_,_,false,false,(pwS t).2.1,_,z5o hs hsp _ false [] 1000 (fun hh => ?_),rfl,hpw.1,.inr ⟨rfl,.inr ⟨d,r,w2,w3⟩⟩⟩
    rw [w2] at hh
    have:d=59:=by simpa using hh
    subst this
    exact absurd w3 (by decide)
  ·exact ⟨_,_,false,true,trL 32 (pwS t).2.1,_,z5p _ _ _ _ _ _,rfl,(wh 32 _).trans hpw.1,.inr ⟨rfl,.inl rfl⟩⟩
noncomputable abbrev lP (s:Bs):=fun (q:Bs×Int×Bool×(List zg))=>jq s q.1 q.2.1 q.2.2.1 q.2.2.2
noncomputable abbrev lR:=fun (q:Bs×(List zg))=>ju q.1 q.2
theorem y7z (s:Bs) (out:List zg) (i:Int) (h:out.length≤1000000000) (hw:∀ x,x∈out→wOK x):∃ r,Zr out s i false=some r∧Wz out=some r∧r.1.length≤50∧∀ x,x∈r.1→wOK x∧x.Params.length≤100:=by
 have hg:ke out (fun (a0:zg)=>z1b a0)=some (out.any fun x=>decide (100 < (x.Params.length:Int))):=z7b out (fun x=>decide (100 < (x.Params.length:Int))) h fun x hx=>rfl
 have hg':ke out (fun (a0:zg)=>z1j a0)=some (out.any fun x=>decide (100 < (x.Params.length:Int))):=z7b out (fun x=>decide (100 < (x.Params.length:Int))) h fun x hx=>rfl
 unfold Zr Qu Wz Wy
 rw [hg,hg']
 simp only [Bool.false_eq_true,if_false,Option.bind_some,if_true]
 by_cases h50:(50:Int) < (out.length:Int)
 ·rw [if_pos (by simpa using h50)]
  exact ⟨_,rfl,rfl,by simp,fun x hx=>by cases hx⟩
 ·rw [if_neg (by simpa using h50)]
  cases hany:out.any fun x=>decide (100 < (x.Params.length:Int))
  ·exact ⟨_,rfl,rfl,by simp only; omega,fun x hx=>⟨hw x hx,by
    have:=List.any_eq_false.1 hany x hx
    simp only [decide_eq_true_eq] at this
    omega⟩⟩
  ·exact ⟨_,rfl,rfl,by simp,fun x hx=>by cases hx⟩
theorem z4a (s:Bs) (i:Int) (out:List zg):iter (lP s) (s,i,true,out)=some ([],9):=qk (body:=lP s) (by
 show jq s s i true out=_
 unfold jq Zr
 simp)
theorem y5f {s:Bs} (hs:s.length≤1000000) (ha:ascB s=true):∀ (n:Nat) (t:Bs) (out:List zg),t.length≤n→t <:+ s→out.length+t.length≤10000000→(∀ x,x∈out→wOK x) →
  ∃ r,iter (lP s) (s,pS s t,false,out)=some r∧iter lR (t,out)=some r∧r.1.length≤50∧∀ x,x∈r.1→wOK x∧x.Params.length≤100:=by
 intro n
 induction n using Nat.strongRecOn with
 | _ n ih =>
  intro t out hn h hl hw
  have hlen:=qo h
  have nine:([]:List zg).length≤50∧∀ x,x∈([]:List zg)→wOK x∧x.Params.length≤100:=⟨by simp,fun x hx=>by cases hx⟩
  match t,hn,h,hl,hlen with
  | [],hn,h,hl,hlen =>
   obtain ⟨r,r1,r2,r3⟩:=y7z s out (pS s []) (by simp at hl; omega) hw
   refine ⟨r,qk (body:=lP s) ?_,qk (body:=lR) ?_,r3⟩
   ·show jq s s (pS s []) false out=_
    unfold jq
    rw [je h,r1]; simp
   ·show ju [] out=_
    unfold ju
    rw [r2]; simp
  | c::r,hn,h,hl,hlen =>
   simp only [List.length_cons] at hn hl hlen
   have hr:r <:+ s:=ut h
   have hrl:=qo (wh 32 r)
   by_cases hc:c=44
   ·subst hc
    have hP:lP s (s,pS s (44::r),false,out)=some (.inl (s,pS s (trL 32 r),false,out)):=by
     show jq s s (pS s (44::r)) false out=_
     unfold jq jg
     rw [je h,kf hs false h 44 44 rfl]
     simp only [Option.bind_some]
     rw [show ifh 44 (44::r)=r from rfl,Ze hs false hr]
     simp
    have hR:lR (44::r,out)=some (.inl (trL 32 r,out)):=by
     show ju (44::r) out=_
     unfold ju kg
     simp only [List.getElem?_cons_zero,Option.bind_some,z0o]
     rw [xr r (by omega)]
     simp
    obtain ⟨q,q1,q2,q3⟩:=ih (trL 32 r).length (by omega) (trL 32 r) out (Nat.le_refl _) ((wh 32 r).trans hr) (by omega) hw
    exact ⟨q,(qp (body:=lP s) hP).trans q1,(qp (body:=lR) hR).trans q2,q3⟩
   ·obtain ⟨it,it',rb,b,t1,t',k1,k2,k3,k4⟩:=y7h hs ha h
    have ht1:=k3.trans h
    have ht1l:=qo k3
    simp only [List.length_cons] at ht1l
    have hP:lP s (s,pS s (c::r),false,out)=(if b then (jg (out++[it]) s (pS s t1) true) else (if t1≠[] then jg (out++[it]) s (pS s (ifh 44 t1)) (!decide (t1.head?=some 44)) else (jg (out++[it]) s (pS s t1) false))):=by
     show jq s s (pS s (c::r)) false out=_
     unfold jq
     rw [je h,kf hs false h 44 44 rfl]
     simp only [Option.bind_some]
     rw [show ifh 44 (c::r)=c::r from if_neg (by simpa using hc),show decide ((c::r).head?=some 44)=false from decide_eq_false (by simpa using hc),k1]
     simp only [Option.bind_some]
     rw [if_pos (by omega:out.length+1≤1000000000),je ht1]
     cases b
     ·rw [kf hs false ht1 44 44 rfl]
      by_cases h0:t1=[] <;> simp [h0]
     ·simp
    have hR:lR (c::r,out)=if rb=false then some (.inr ([],9)) else (if t'≠[] then (if t'.head?=some 44 then kg (out++[it']) t' else some (.inr ([],9))) else kg (out++[it']) t'):=by
     show ju (c::r) out=_
     unfold ju Yo
     simp only [List.getElem?_cons_zero,Option.bind_some,u8c c 44 44 rfl,decide_eq_false hc]
     rw [k2]
     simp only [Option.bind_some]
     rw [if_pos (by omega:out.length+1≤1000000000)]
     cases rb
     ·simp
     ·cases t' with
      | nil=>simp
      | cons x y =>
       simp only [List.getElem?_cons_zero,Option.bind_some,u8n x 44 44 rfl]
       by_cases hx:x=44 <;> simp [hx]
    have skp:∀ (o:List zg) (u:Bs) (bb:Bool),u <:+ s→jg o s (pS s u) bb=some (.inl (s,pS s (trL 32 u),bb,o)):=by
     intro o u bb hu
     unfold jg
     rw [Ze hs bb hu]; rfl
    rcases k4 with ⟨a1,a2,a3,a4,a5,a6⟩ | ⟨a1,a2⟩
    ·subst a1 a2 a3 a4
     simp only [List.length_cons] at a5
     rw [if_neg (by simp)] at hP hR
     have hw':∀ x,x∈out++[it']→wOK x:=by
      intro x hx
      rcases List.mem_append.1 hx with hx | hx
      ·exact hw x hx
      ·obtain rfl:x=it':=by simpa using hx
       exact a6
     cases t' with
     | nil =>
      simp only [ne_eq,not_true_eq_false,if_false] at hP hR
      rw [skp _ _ _ ht1] at hP
      unfold kg at hR
      rw [xr [] (by simp)] at hR
      simp only [Option.bind_some] at hR
      obtain ⟨q,q1,q2,q3⟩:=ih 0 (by omega) [] (out++[it']) (by simp) ht1 (by simp; omega) hw'
      exact ⟨q,(qp (body:=lP s) hP).trans q1,(qp (body:=lR) hR).trans q2,q3⟩
     | cons x y =>
      simp only [List.length_cons] at a5
      have hy:y <:+ s:=ut ht1
      rw [if_pos (by simp)] at hP hR
      by_cases hx:x=44
      ·subst hx
       rw [if_pos (by simp)] at hR
       rw [show ifh 44 (44::y)=y from rfl,show (!decide ((44::y:Bs).head?=some 44))=false from by simp,skp _ _ _ hy] at hP
       unfold kg at hR
       rw [xr _ (by simp; omega)] at hR
       simp only [Option.bind_some] at hR
       rw [show trL 32 (44::y)=44::y from z5d 32 _ (by simp)] at hR
       have hR2:lR (44::y,out++[it'])=some (.inl (trL 32 y,out++[it'])):=by
        show ju (44::y) (out++[it'])=_
        unfold ju kg
        simp only [List.getElem?_cons_zero,Option.bind_some,z0o]
        rw [xr y (by omega)]
        simp
       have hyl:=qo (wh 32 y)
       obtain ⟨q,q1,q2,q3⟩:=ih (trL 32 y).length (by omega) (trL 32 y) (out++[it']) (Nat.le_refl _) ((wh 32 y).trans hy) (by simp; omega) hw'
       exact ⟨q,(qp (body:=lP s) hP).trans q1,(qp (body:=lR) hR).trans ((qp (body:=lR) hR2).trans q2),q3⟩
      ·rw [if_neg (by simpa using hx)] at hR
       rw [show ifh 44 (x::y)=x::y from if_neg (by simpa using hx),show (!decide ((x::y:Bs).head?=some 44))=true from by simp [hx],skp _ _ _ ht1] at hP
       exact ⟨_,(qp (body:=lP s) hP).trans (z4a _ _ _),qk (body:=lR) hR,nine⟩
    ·subst a1
     rw [if_pos rfl] at hR
     rcases a2 with a2 | ⟨d,y,a2,a3⟩
     ·subst a2
      rw [if_pos rfl,skp _ _ _ ht1] at hP
      exact ⟨_,(qp (body:=lP s) hP).trans (z4a _ _ _),qk (body:=lR) hR,nine⟩
     ·cases b with
      | true =>
       rw [if_pos rfl,skp _ _ _ ht1] at hP
       exact ⟨_,(qp (body:=lP s) hP).trans (z4a _ _ _),qk (body:=lR) hR,nine⟩
      | false =>
       subst a2
       have hd:¬ d=44:=fun e=>by subst e; exact absurd a3 (by decide)
       rw [if_neg (by simp),if_pos (by simp),show ifh 44 (d::y)=d::y from if_neg (by simpa using hd),show (!decide ((d::y:Bs).head?=some 44))=true from by simp [hd],skp _ _ _ ht1] at hP
       exact ⟨_,(qp (body:=lP s) hP).trans (z4a _ _ _),qk (body:=lR) hR,nine⟩
theorem y4p (s:Bs) (hs:s.length≤1000000):∃ r,z1c s=some r∧z1k s=some r∧r.1.length≤50∧∀ x,x∈r.1→wOK x∧x.Params.length≤100:=by
 unfold z1c z1k
 rw [y72,y7l s (by omega)]
 simp only [Option.bind_some]
 cases hf:fldB s
 ·exact ⟨_,rfl,rfl,by simp,fun x hx=>by cases hx⟩
 ·have ha:ascB s=true:=by
   unfold fldB at hf
   simp only [Bool.and_eq_true] at hf
   exact y4f hf.2.1
  have e0:(0:Int)=pS s s:=by simp [pS]
  simp only [Bool.not_true,Bool.false_eq_true,if_false]
  rw [e0,Ze hs false List.suffix_rfl,xr s hs]
  simp only [Option.bind_some]
  have hl:=qo (wh 32 s)
  exact y5f hs ha _ (trL 32 s) [] (Nat.le_refl _) (wh 32 s) (by simp; omega) (fun x hx=>by cases hx)
set_option linter.unusedSimpArgs false
theorem y5h {k:Int} {s:zz} (h:SB k s) (hk:k≤1000):Ok (z1p s) fun r=>r.1.length≤100000∧SB (k+40) r.2:=by
 have hJ:∀ (t:Bs) (c:List Int) (a:Int),t.length≤30000→SB (k+10) (zz.mk c a)→Ok (Yr t c a) fun r=>r.1.length≤100000∧SB (k+40) r.2:=by
  intro t c a ht hs
  unfold Yr
  refine yq (z3d hs (by omega) _ ⟨by simp,by simp⟩) fun r hr => ?_
  have hm:=hr.1
  simp only [List.mem_cons,List.not_mem_nil,or_false] at hm
  obtain ⟨m,hm2,hm3⟩:∃ m:Nat,r.1=(m:Int)∧m≤2:=⟨r.1.toNat,by omega,by omega⟩
  rw [hm2,Int.toNat_natCast]
  refine ok_g (by omega) ?_
  refine z02 (fun j (q:Bs×List Int×Int)=>j≤2∧q.1.length≤30000+20 * j∧SB (k+11+3 * (j:Int)) (zz.mk q.2.1 q.2.2)) m 0 _ ⟨by omega,by simpa using ht,hr.2.mono (by omega)⟩ ?_ ?_
  ·rintro j ⟨v,l,x⟩ _ hj ⟨h0,h1,h2⟩
   simp only at h1 h2 ⊢
   unfold z4t
   refine yq (y8j h2 (by omega) _ _ (by omega) (by simp)) fun r2 hr2=>wa ⟨by omega,?_,hr2.2.mono (by omega)⟩
   have:=hr2.1
   simp only [List.length_cons,List.length_nil] at this ⊢
   omega
  ·rintro ⟨v,l,x⟩ ⟨h0,h1,h2⟩
   simp only at h1 h2 ⊢
   unfold z4u
   exact wa ⟨by simp only; omega,h2.mono (by omega)⟩
 unfold z1p
 refine yq (z5y h (by omega) 0 4 (by omega)) fun r hr=>yq (z27 hr.2 (by omega) 10 _ ⟨by simp,by simp⟩ (by decide)) fun r4 h4 => ?_
 obtain ⟨m,hm⟩:∃ m:Nat,r.1=(m:Int):=⟨r.1.toNat,by omega⟩
 rw [hm]
 refine yq (y1x h4.2 (by omega) m (by omega) _ h4.1 _ ⟨by simp,by simp⟩ (by decide)) fun r6 h6=>yq (z7d h6.2 (by omega) 8 (by omega)) fun r8 h8=>jf (fun _ => ?_) (fun _=>hJ _ _ _ h6.1 (h8.mono (by omega)))
 exact yq (z27 h8 (by omega) 100 _ ⟨by simp,by simp⟩ (by decide)) fun r11 h11=>hJ _ _ _ (by have:=h11.1; omega) (h11.2.mono (by omega))
def vsL:List Bs:=[[49],[],[97,32,98],[113,34,114],[92],[120,44,121],[127],[10]]
def rpq (v:Bs):Bs:=Lib.replaceAll (Lib.replaceAll v [92] [92,92]) [34] [92,34]
theorem z5x:∀ v,v∈vsL→rgB v 32 126=true→tokB v=false→Zv v=some (rpq v)∧Wb v [92] [92,92]=some (Lib.replaceAll v [92] [92,92])∧Wb (Lib.replaceAll v [92] [92,92]) [34] [92,34]=some (rpq v)∧(rpq v).length≤10:=by
 decide +kernel
def itOK (x:zg):Prop:=x.Words.length≤20∧x.Params.length≤10∧∀ p,p∈x.Params→p.Name.length≤10∧p.Value∈vsL
theorem y7g {k:Int} {s:zz} (h:SB k s) (hk:k≤1000):Ok (z1q s) fun r=>(r.1.length≤4∧∀ x,x∈r.1→itOK x)∧SB (k+100) r.2:=by
 have hJ2:∀ (v:List zg) (c:List Int) (a:Int),v.length≤4→(∀ x,x∈v→itOK x)→SB (k+60) (zz.mk c a)→Ok (ui v c a) fun r=>(r.1.length≤4∧∀ x,x∈r.1→itOK x)∧SB (k+100) r.2:=fun v c a h1 h2 h3=>by
  unfold ui
  exact wa ⟨⟨h1,h2⟩,h3.mono (by omega)⟩
 have hset:∀ (l:List zg) (i:Nat) (y:zg),l.length≤4→(∀ x,x∈l→itOK x)→itOK y→(l.set i y).length≤4∧∀ x,x∈l.set i y→itOK x:=fun l i y h1 h2 h3=>by
  refine ⟨by rw [List.length_set]; exact h1,fun x hx => ?_⟩
  rcases List.mem_or_eq_of_mem_set hx with h | rfl
  ·exact h2 x h
  ·exact h3
 have hJ3:∀ (l:List zg) (v:Bool) (c:List Int) (a:Int),l.length≤4→(v=true→0 < l.length)→(∀ x,x∈l→itOK x∧x.Params.length≤2)→SB (k+50) (zz.mk c a)→Ok (Ys l v c a) fun r=>(r.1.length≤4∧∀ x,x∈r.1→itOK x)∧SB (k+100) r.2:=fun l v c a h1 hv h2 h3=>by
  unfold Ys
  refine jf (fun hvt => ?_) (fun _=>hJ2 l c a h1 (fun x hx=>(h2 x hx).1) (h3.mono (by omega)))
  have hl:=hv hvt
  refine yq (kz h3 (by omega) _ (by omega)) fun r19 h19 => ?_
  have hlt:=h19.1.2.1 (by omega)
  have hat:Ok (at? l r19.1) fun x=>x∈l:=by
   unfold at?
   rw [if_pos h19.1.1,List.getElem?_eq_getElem (by omega)]
   exact ⟨_,rfl,List.getElem_mem _⟩
  refine yq hat fun x21 hx=>yq (kz h19.2 (by omega) 3 (by omega)) fun r23 h23=>jf (fun _ => ?_) (fun _=>jf (fun _ => ?_) (fun _ => ?_))
  ·refine yq (z27 h23.2 (by omega) 10 _ ⟨by simp,by simp⟩ (by decide)) fun r26 h26 => ?_
   obtain ⟨e1,e2⟩:=hset l r19.1.toNat (zg.mk r26.1 x21.Params x21.Quality) h1 (fun x hx=>(h2 x hx).1) ⟨by have:=h26.1; simp only; omega,(h2 x21 hx).1.2⟩
   exact hJ2 _ _ _ e1 e2 (h26.2.mono (by omega))
  ·refine yq (y45 h23.2 (by omega) 0 1000 (by omega)) fun r29 h29 => ?_
   obtain ⟨e1,e2⟩:=hset l r19.1.toNat (zg.mk x21.Words x21.Params r29.1) h1 (fun x hx=>(h2 x hx).1) (h2 x21 hx).1
   exact hJ2 _ _ _ e1 e2 (h29.2.mono (by omega))
  ·refine yq (Qh h23.2 (by omega) _ ⟨by simp,by simp⟩) fun r31 h31=>yq (Qh h31.2 (by omega) _ ⟨by simp,by simp⟩) fun r33 h33 => ?_
   have hp:=(h2 x21 hx).2
   refine ok_g (by omega) ?_
   have hn:r31.1.length≤10:=by
    have h:=h31.1
    revert h
    exact (by decide:∀ v,v∈([[113],[81],[],[97,32,98],[120]]:List Bs)→v.length≤10) _
   have hval:r33.1∈vsL:=by
    have h:=h33.1
    revert h
    exact (by decide:∀ v,v∈([[49],[127],[10]]:List Bs)→v∈vsL) _
   obtain ⟨e1,e2⟩:=hset l r19.1.toNat (zg.mk x21.Words (x21.Params++[zt.mk r31.1 r33.1]) x21.Quality) h1 (fun x hx=>(h2 x hx).1) ⟨(h2 x21 hx).1.1,by simp only [List.length_append,List.length_cons,List.length_nil]; omega,fun p hp2=>by
    rcases List.mem_append.1 hp2 with hp3 | hp3
    ·exact (h2 x21 hx).1.2.2 p hp3
    ·rw [List.mem_singleton.1 hp3]; exact ⟨hn,hval⟩⟩
   exact hJ2 _ _ _ e1 e2 (h33.2.mono (by omega))
 unfold z1q
 refine yq (z5y h (by omega) 0 4 (by omega)) fun r hr => ?_
 obtain ⟨m,hm,hm4⟩:∃ m:Nat,r.1=(m:Int)∧m≤4:=⟨r.1.toNat,by omega,by omega⟩
 rw [hm,Int.toNat_natCast]
 refine ok_g (by omega) ?_
 refine z02 (fun j (q:List Int×Int×List zg)=>j≤4∧(q.2.2.length≤j∧∀ x,x∈q.2.2→itOK x∧x.Params.length≤2)∧SB (k+1+10 * (j:Int)) (zz.mk q.1 q.2.1)) m 0 _ ⟨by omega,⟨by simp,fun x hx=>by simp at hx⟩,hr.2.mono (by omega)⟩ ?_ ?_
 ·rintro j ⟨c,a,l⟩ _ hj ⟨h0,⟨h1,h2⟩,h3⟩
  simp only at h1 h2 h3 ⊢
  unfold z4w
  refine yq (z27 h3 (by omega) 10 _ ⟨by simp,by simp⟩ (by decide)) fun r40 h40=>yq (z3d h40.2 (by omega) _ ⟨by simp,by simp⟩) fun r42 h42=>yq (z3d h42.2 (by omega) _ ⟨by simp,by simp⟩) fun r44 h44 => ?_
  have hm:=h44.1
  simp only [List.mem_cons,List.not_mem_nil,or_false] at hm
  obtain ⟨n,hn,hn2⟩:∃ n:Nat,r44.1=(n:Int)∧n≤2:=⟨r44.1.toNat,by omega,by omega⟩
  rw [hn,Int.toNat_natCast]
  refine ok_g (by omega) ?_
  refine z02 (fun i (q:List zt×List Int×Int)=>i≤2∧(q.1.length≤i∧∀ p,p∈q.1→p.Name.length≤10∧p.Value∈vsL)∧SB (k+4+10 * (j:Int)+2 * (i:Int)) (zz.mk q.2.1 q.2.2)) n 0 _ ⟨by omega,⟨by simp,fun x hx=>by simp at hx⟩,h44.2.mono (by omega)⟩ ?_ ?_
  ·rintro i ⟨ps,c2,a2⟩ _ hi ⟨g0,⟨g1,g2⟩,g3⟩
   simp only at g1 g2 g3 ⊢
   unfold z4v
   refine yq (Qh g3 (by omega) _ ⟨by simp,by simp⟩) fun r54 h54=>yq (Qh h54.2 (by omega) _ ⟨by simp,by simp⟩) fun r56 h56 => ?_
   have hn:r54.1.length≤10:=by
    have h:=h54.1
    revert h
    exact (by decide:∀ v,v∈([[120],[121],[90]]:List Bs)→v.length≤10) _
   have hval:r56.1∈vsL:=by
    have h:=h56.1
    revert h
    exact (by decide:∀ v,v∈([[49],[],[97,32,98],[113,34,114],[92],[120,44,121]]:List Bs)→v∈vsL) _
   refine ok_g (by omega) (wa ⟨by omega,⟨by simp only [List.length_append,List.length_cons,List.length_nil]; omega,fun p hp => ?_⟩,h56.2.mono (by omega)⟩)
   rcases List.mem_append.1 hp with hp | hp
   ·exact g2 p hp
   ·rw [List.mem_singleton.1 hp]; exact ⟨hn,hval⟩
  ·rintro ⟨ps,c2,a2⟩ ⟨g0,⟨g1,g2⟩,g3⟩
   simp only at g1 g2 g3 ⊢
   unfold z4x
   refine ok_g (by omega) (wa ⟨by omega,⟨by simp only [List.length_append,List.length_cons,List.length_nil]; omega,fun x hx => ?_⟩,g3.mono (by omega)⟩)
   rcases List.mem_append.1 hx with hx | hx
   ·exact h2 x hx
   ·rw [List.mem_singleton.1 hx]; exact ⟨⟨by have:=h40.1; simp only; omega,by simp only; omega,g2⟩,by simp only; omega⟩
 ·rintro ⟨c,a,l⟩ ⟨h0,⟨h1,h2⟩,h3⟩
  simp only at h1 h2 h3 ⊢
  unfold z4y
  refine jf (fun hl => ?_) (fun _=>hJ3 _ _ _ _ (by omega) (fun h=>by cases h) h2 (h3.mono (by omega)))
  simp only [decide_eq_true_eq] at hl
  exact yq (z7d h3 (by omega) 8 (by omega)) fun r12 h12=>hJ3 _ _ _ _ (by omega) (fun _=>by omega) h2 (h12.mono (by omega))
def pF (p:zt):Int:=if !tokB p.Name || (decide (p.Name=[113]) || decide (p.Name=[81])) then 5 else if !rgB p.Value 32 126 then 3 else 0
def pV (v:Bs):Bs:=if tokB v then v else [34]++rpq v++[34]
def pT (s:Bs) (p:zt):Bs:=s++((([59]++p.Name)++[61])++pV p.Value)
def psF:List zt→Int
 | []=>0
 | p::ps=>if pF p≠0 then pF p else psF ps
theorem z9i:∀ (ps:List zt),psF ps=0→∀ p,p∈ps→pF p=0
 | [],_,p,h=>by cases h
 | q::ps,h,p,hp=>by
  unfold psF at h
  by_cases hq:pF q=0
  ·rw [if_neg (by simp [hq])] at h
   rcases List.mem_cons.1 hp with rfl | hp
   ·exact hq
   ·exact z9i ps h p hp
  ·rw [if_pos hq] at h; exact absurd h hq
theorem z56 {p:zt} (h:pF p=0):tokB p.Name=true∧rgB p.Value 32 126=true:=by
 unfold pF at h
 split at h
 ·cases h
 ·rename_i h1
  split at h
  ·cases h
  ·rename_i h2
   simp only [Bool.or_eq_true,not_or,Bool.not_eq_true',Bool.not_eq_false] at h1 h2
   exact ⟨h1.1,h2⟩
def pOK (p:zt):Prop:=p.Name.length≤10∧p.Value∈vsL
theorem z2n {v:Bs} (h:v∈vsL):v.length≤10:=(by decide:∀ v,v∈vsL→v.length≤10) v h
theorem z54 {v:Bs} (h:v∈vsL) (h2:rgB v 32 126=true):(pV v).length≤12:=by
 unfold pV
 split
 ·have:=z2n h; omega
 ·rename_i h3
  have:=(z5x v h h2 (by simpa using h3)).2.2.2
  simp only [List.length_append,List.length_cons,List.length_nil]
  omega
theorem z55 (s:Bs) {p:zt} (h:pOK p) (hf:pF p=0):(pT s p).length≤s.length+30:=by
 have h1:=h.1
 have h2:=z54 h.2 (z56 hf).2
 unfold pT
 simp only [List.length_append,List.length_cons,List.length_nil]
 omega
theorem y04:∀ (ps:List zt) (k:Nat),(∀ p,p∈ps→pOK p)→forL (fun (k:Nat) (x:zt) (s:Unit)=>Zo k x) (fun (s:Unit)=>z3i) k ps ()=some (psF ps)
 | [],k,h=>rfl
 | p::ps,k,h=>by
  have hp:=h p (by simp)
  have hn:=hp.1
  have hv:=z2n hp.2
  have e:Zo k p=if pF p≠0 then some (.inr (pF p)) else some (.inl ()):=by
   unfold Zo Qp We pF
   rw [z1y _ (by omega),z61 _ _ _ (by omega)]
   simp only [Option.bind_some]
   cases tokB p.Name <;> cases hq:(decide (p.Name=[113]) || decide (p.Name=[81])) <;> cases rgB p.Value 32 126 <;> simp [hq]
  show (Zo k p).bind _=_
  rw [e]
  unfold psF
  by_cases hf:pF p=0
  ·rw [if_neg (by simp [hf]),if_neg (by simp [hf])]
   exact y04 ps (k+1) fun q hq=>h q (List.mem_cons_of_mem _ hq)
  ·rw [if_pos hf,if_pos hf]; rfl
theorem y4x (s:Bs) (p:zt) (h:pOK p) (hf:pF p=0) (hs:s.length≤1000000) (k:Nat):Zm k p s=some (.inl (pT s p)):=by
 have hn:=h.1
 have hv:=z2n h.2
 have hr:=(z56 hf).2
 have hl:=z54 h.2 hr
 unfold Zm Qo
 rw [z1y _ (by omega)]
 simp only [Option.bind_some]
 unfold pT
 cases ht:tokB p.Value
 ·obtain ⟨q1,_,_,q4⟩:=z5x _ h.2 hr ht
  rw [q1]
  simp only [Bool.not_false,if_true,Option.bind_some]
  have ev:pV p.Value=([34]++rpq p.Value)++[34]:=by unfold pV; rw [if_neg (by simp [ht])]
  rw [ev]
  simp only [List.length_append,List.length_cons,List.length_nil]
  rw [if_pos (by omega),if_pos (by omega),if_pos (by omega),if_pos (by omega),if_pos (by omega),if_pos (by omega)]
 ·have ev:pV p.Value=p.Value:=by unfold pV; rw [if_pos ht]
  rw [ev]
  simp only [Bool.not_true,Bool.false_eq_true,if_false,List.length_append,List.length_cons,List.length_nil]
  rw [if_pos (by omega),if_pos (by omega),if_pos (by omega),if_pos (by omega)]
theorem y4y (s:Bs) (p:zt) (h:pOK p) (hs:s.length≤1000000) (k:Nat):Yp k p s=if pF p≠0 then some (.inr (.inr ([],pF p))) else some (.inl (pT s p)):=by
 have hn:=h.1
 have hv:=z2n h.2
 unfold Yp z0a
 rw [uo _ (by omega),y1z,z61 _ _ _ (by omega),uo _ (by omega)]
 simp only [Option.bind_some]
 by_cases h5:(!tokB p.Name || (decide (p.Name=[113]) || decide (p.Name=[81])))=true
 ·have e5:pF p=5:=by unfold pF; rw [if_pos h5]
  rw [e5,if_pos (by simpa [Bool.or_assoc] using h5),if_pos (by decide)]
 ·rw [if_neg (by simpa [Bool.or_assoc] using h5)]
  by_cases h3:(!rgB p.Value 32 126)=true
  ·have e3:pF p=3:=by unfold pF; rw [if_neg h5,if_pos h3]
   rw [e3,if_pos h3,if_pos (by decide)]
  ·have e0:pF p=0:=by unfold pF; rw [if_neg h5,if_neg h3]
   have hr:=(z56 e0).2
   have hl:=z54 h.2 hr
   rw [if_neg h3,e0]
   refine Eq.trans ?_ (if_neg (fun h=>h rfl)).symm
   unfold pT
   cases ht:tokB p.Value
   ·obtain ⟨_,q2,q3,q4⟩:=z5x _ h.2 hr ht
    rw [q2]
    simp only [Bool.not_false,if_true,Option.bind_some]
    rw [q3]
    simp only [Option.bind_some]
    have ev:pV p.Value=([34]++rpq p.Value)++[34]:=by unfold pV; rw [if_neg (by simp [ht])]
    rw [ev]
    simp only [List.length_append,List.length_cons,List.length_nil]
    rw [if_pos (by omega),if_pos (by omega),if_pos (by omega),if_pos (by omega),if_pos (by omega),if_pos (by omega)]
   ·have ev:pV p.Value=p.Value:=by unfold pV; rw [if_pos ht]
    rw [ev]
    simp only [Bool.not_true,Bool.false_eq_true,if_false,List.length_append,List.length_cons,List.length_nil]
    rw [if_pos (by omega),if_pos (by omega),if_pos (by omega),if_pos (by omega)]
theorem y0z:∀ (ps:List zt) (s:Bs),(∀ p,p∈ps→pOK p∧pF p=0)→(ps.foldl pT s).length≤s.length+30 * ps.length
 | [],s,h=>by simp
 | p::ps,s,h=>by
  have h1:=z55 s (h p (by simp)).1 (h p (by simp)).2
  have h2:=y0z ps (pT s p) fun q hq=>h q (List.mem_cons_of_mem _ hq)
  simp only [List.foldl_cons,List.length_cons]
  omega
theorem z8l (it:zg):∀ (ps:List zt) (k:Nat) (s:Bs),(∀ p,p∈ps→pOK p∧pF p=0)→s.length+30 * ps.length≤1000000→forL (fun (k:Nat) (x:zt) (s:Bs)=>Zm k x s) (fun (s:Bs)=>Zn it s) k ps s=Zn it (ps.foldl pT s)
 | [],k,s,h,hs=>rfl
 | p::ps,k,s,h,hs=>by
  have hp:=h p (by simp)
  simp only [List.length_cons] at hs
  show (Zm k p s).bind _=_
  rw [y4x s p hp.1 hp.2 (by omega) k]
  have hl:=z55 s hp.1 hp.2
  exact z8l it ps (k+1) (pT s p) (fun q hq=>h q (List.mem_cons_of_mem _ hq)) (by omega)
theorem z9e (l9:List Bs) (it:zg):∀ (ps:List zt) (k:Nat) (s:Bs),(∀ p,p∈ps→pOK p)→s.length+30 * ps.length≤1000000 →
  forL (fun (k:Nat) (x:zt) (s:Bs)=>Yp k x s) (fun (s:Bs)=>Yq l9 it s) k ps s=if psF ps≠0 then some (.inr ([],psF ps)) else Yq l9 it (ps.foldl pT s)
 | [],k,s,h,hs=>rfl
 | p::ps,k,s,h,hs=>by
  have hp:=h p (by simp)
  simp only [List.length_cons] at hs
  show (Yp k p s).bind _=_
  rw [y4y s p hp (by omega) k]
  unfold psF
  by_cases hf:pF p=0
  ·have e:¬ (pF p≠0):=fun h=>h hf
   rw [if_neg e,if_neg e]
   have hl:=z55 s hp hf
   exact z9e l9 it ps (k+1) (pT s p) (fun q hq=>h q (List.mem_cons_of_mem _ hq)) (by omega)
  ·rw [if_pos hf,if_pos hf,if_pos hf]; rfl
theorem y8b (q:Int) (h:0 < q∧q < 1000):∃ d:Bs,d.length≤20∧∀ {β:Type} (F:Bs→Option β),((z07 (wr (1000+q))).bind fun r=>(sub? r 1 (r.length:Int)).bind fun l=>(Zt l [48]).bind F)=F d:=by
 have e1:wr (1000+q)=1000+q:=wo (by omega)
 have hl:=y7f (n:=1000+q) (by omega) (by omega)
 have h0:Lib.itoa (1000+q)≠[]:=by
  rw [y0m (by omega)]
  intro hq
  have hc:=y8k (1000+q).toNat
  rw [hq] at hc
  simp [canD] at hc
 have h1:0 < (Lib.itoa (1000+q)).length:=by
  rcases Nat.eq_zero_or_pos (Lib.itoa (1000+q)).length with h2 | h2
  ·exact absurd (List.eq_nil_of_length_eq_zero h2) h0
  ·exact h2
 have e2:sub? (Lib.itoa (1000+q)) 1 ((Lib.itoa (1000+q)).length:Int)=some ((Lib.itoa (1000+q)).drop 1):=by
  unfold sub?
  rw [if_pos ⟨by omega,by omega,Int.le_refl _⟩]
  refine congrArg some (List.take_of_length_le ?_)
  rw [List.length_drop]
  have e9:(1:Int).toNat=1:=rfl
  rw [e9]; omega
 refine ⟨trR 48 ((Lib.itoa (1000+q)).drop 1),?_,fun F => ?_⟩
 ·have:=z8i 48 ((Lib.itoa (1000+q)).drop 1)
  rw [List.length_drop] at this
  omega
 ·have e3:Zt ((Lib.itoa (1000+q)).drop 1) [48]=some (trR 48 ((Lib.itoa (1000+q)).drop 1)):=by
   unfold Zt Qe
   cases hd:decide ((Lib.itoa (1000+q)).drop 1=[]) with
   | true =>
    have:(Lib.itoa (1000+q)).drop 1=[]:=by simpa using hd
    rw [this]; rfl
   | false =>
    have:=z8h 48 ((Lib.itoa (1000+q)).drop 1) (by rw [List.length_drop]; omega)
    simp only [List.length_cons,List.length_nil,List.getElem?_cons_zero,Option.bind_some]
    have e48:((48:UInt8).toNat:Int)=48:=rfl
    rw [e48] at this ⊢
    rw [this]
    rfl
  unfold z07
  rw [e1,if_pos (by omega)]
  simp only [Option.bind_some]
  rw [e2]
  simp only [Option.bind_some]
  rw [e3]
  rfl
theorem y4k (it:zg) (l9:List Bs) (s:Bs) (hq:0≤it.Quality∧it.Quality≤1000) (hs:s.length≤1000) (hl:l9.length≤100):∃ t:Bs,t.length≤1100∧Zn it s=some t∧Yq l9 it s=some (.inl (l9++[t])):=by
 unfold Zn Yq z0b z33
 have h9:l9.length+1≤1000000000:=by omega
 by_cases h1:it.Quality=1000
 ·have e1:decide (it.Quality=1000)=true:=decide_eq_true h1
  have e2:decide (it.Quality < 1000)=false:=decide_eq_false (by omega)
  refine ⟨s,by omega,?_,?_⟩
  ·simp only [e1,if_true]
  ·simp only [e2,Bool.false_eq_true,if_false,h9,if_true]
 ·have e1:decide (it.Quality=1000)=false:=decide_eq_false h1
  have e2:decide (it.Quality < 1000)=true:=decide_eq_true (by omega)
  by_cases h0:it.Quality=0
  ·have e0:decide (it.Quality=0)=true:=decide_eq_true h0
   refine ⟨s++[59,113,61,48],by simp; omega,?_,?_⟩
   ·simp only [e1,e0,Bool.false_eq_true,if_false,if_true]
    exact if_pos (by simp; omega)
   ·simp only [e2,e0,if_true,Option.bind_some]
    rw [if_pos (by simp),if_pos (by simp; omega),if_pos h9]
    rfl
  ·have e0:decide (it.Quality=0)=false:=decide_eq_false h0
   obtain ⟨d,hd,hF⟩:=y8b it.Quality (by omega)
   have e5:s.length+[59,113,61,48,46].length≤1000000000:=by simp; omega
   refine ⟨(s++[59,113,61,48,46])++d,by simp; omega,?_,?_⟩
   ·simp only [e1,e0,Bool.false_eq_true,if_false,e5,if_true]
    rw [hF]
    exact if_pos (by simp; omega)
   ·simp only [e2,e0,if_true,Bool.false_eq_true,if_false]
    rw [hF]
    have e6:[48,46].length+d.length≤1000000000:=by simp; omega
    rw [if_pos e6]
    simp only [Option.bind_some]
    rw [if_pos (by simp; omega),if_pos (by simp; omega),if_pos h9]
    simp
theorem y7j (x:zg) (h:itOK x) (l9:List Bs) (k:Nat) (hl:l9.length≤100):(∃ e:Int,xb k x l9=some (.inr ([],e))∧xo k x l9=some (.inr ([],e)))∨∃ t:Bs,t.length≤1100∧xb k x l9=some (.inl (l9++[t]))∧xo k x l9=some (.inl (l9++[t])):=by
 obtain ⟨hw,hp,hps⟩:=h
 unfold xb xo z3w z3v
 rw [y7k _ (by omega),z7x _ (by omega),z9p,z66]
 simp only [Option.bind_some]
 have hpl:x.Params.length≤1000000000:=by omega
 cases wrdB x.Words
 ·exact .inl ⟨9,rfl,rfl⟩
 ·simp only [Bool.not_true,Bool.false_eq_true,if_false]
  cases hq:outP x.Quality 0 1000
  ·simp only [Bool.not_false,Bool.not_true,Bool.false_eq_true,if_false,hpl,if_true]
   rw [y04 x.Params 0 hps,z9e l9 x x.Params 0 x.Words hps (by omega)]
   simp only [Option.bind_some]
   by_cases hf:psF x.Params=0
   ·have hok:∀ p,p∈x.Params→pOK p∧pF p=0:=fun p hp=>⟨hps p hp,z9i _ hf p hp⟩
    have hfl:=y0z x.Params x.Words hok
    have hqq:0≤x.Quality∧x.Quality≤1000:=by
     unfold outP at hq
     simp only [Bool.or_eq_false_iff,decide_eq_false_iff_not] at hq
     omega
    obtain ⟨t,t1,t2,t3⟩:=y4k x l9 (x.Params.foldl pT x.Words) hqq (by omega) hl
    refine .inr ⟨t,t1,?_,?_⟩
    ·rw [if_neg (by simp [hf]),z8l x x.Params 0 x.Words hok (by omega),t2]
     simp only [Option.bind_some]
     rw [if_pos (by omega)]
    ·rw [if_neg (by simp [hf]),t3]
   ·refine .inl ⟨psF x.Params,?_,?_⟩
    ·rw [if_pos (by simpa using hf)]
    ·rw [if_pos hf]
  ·exact .inl ⟨1,rfl,rfl⟩
theorem y7a (l:List Bs) (x:Bs) (h:l≠[]):Lib.join (l++[x]) [44,32]=Lib.join l [44,32]++([44,32]++x):=by
 cases l with
 | nil=>exact absurd rfl h
 | cons a l =>
  rw [List.cons_append,Lib.join_cons,Lib.join_cons]
  simp [Lib.joinTail]
theorem y5g (l9:List Bs) (h1:l9.length≤100) (h2:(Lib.join l9 [44,32]).length≤100000):∃ r,Qx l9=some r∧z0d l9=some r:=by
 have hj:kc l9 [44,32]=some (Lib.join l9 [44,32]):=by
  unfold kc
  exact if_pos ⟨by omega,by omega⟩
 unfold Qx z0d
 rw [hj]
 simp only [Option.bind_some]
 cases decide ((2000:Int) < ((Lib.join l9 [44,32]).length:Int))
 ·exact ⟨_,rfl,rfl⟩
 ·exact ⟨_,rfl,rfl⟩
theorem z95:∀ (l:List zg) (k:Nat) (l9:List Bs) (n:Nat),(∀ x,x∈l→itOK x)→(n+l.length≤4)→(Lib.join l9 [44,32]).length≤1200 * n→l9.length≤n →
  ∃ r,forL (fun (k:Nat) (x:zg) (s:(List Bs))=>xb k x s) (fun (s:(List Bs))=>Qx s) k l l9=some r∧forL (fun (k:Nat) (x:zg) (s:(List Bs))=>xo k x s) (fun (s:(List Bs))=>z0d s) k l l9=some r
 | [],k,l9,n,h,hn,hj,hl=>by
  simp only [List.length_nil] at hn
  exact y5g l9 (by omega) (by omega)
 | x::l,k,l9,n,h,hn,hj,hl=>by
  simp only [List.length_cons] at hn
  show ∃ r,(xb k x l9).bind _=some r∧(xo k x l9).bind _=some r
  rcases y7j x (h x (by simp)) l9 k (by omega) with ⟨e,e1,e2⟩ | ⟨t,t0,e1,e2⟩
  ·rw [e1,e2]; exact ⟨_,rfl,rfl⟩
  ·rw [e1,e2]
   refine z95 l (k+1) (l9++[t]) (n+1) (fun y hy=>h y (List.mem_cons_of_mem _ hy)) (by omega) ?_ (by simp only [List.length_append,List.length_cons,List.length_nil]; omega)
   by_cases h0:l9=[]
   ·subst h0
    have e:Lib.join ([]++[t]) [44,32]=t:=by simp [Lib.join_cons,Lib.joinTail]
    rw [e]; omega
   ·rw [y7a l9 t h0]
    simp only [List.length_append,List.length_cons,List.length_nil]
    omega
theorem y2k (l:List zg) (hl:l.length≤4) (h:∀ x,x∈l→itOK x):∃ r,z1e l=some r∧z1m l=some r:=by
 have hc:∀ x,x∈l→(decide (100 < (x.Params.length:Int)))=false:=fun x hx=>decide_eq_false (by have:=(h x hx).2.1; omega)
 have hg:ke l (fun (a0:zg)=>Wg a0)=some false:=by
  rw [show ke l (fun (a0:zg)=>Wg a0)=some (l.any fun x=>decide (100 < (x.Params.length:Int))) from z7b l (fun x=>decide (100 < (x.Params.length:Int))) (by omega) fun x hx=>rfl]
  exact congrArg some (List.any_eq_false.2 fun x hx=>by rw [hc x hx]; simp)
 have hg':ke l (fun (a0:zg)=>z1l a0)=some false:=hg
 have h50:decide ((50:Int) < (l.length:Int))=false:=decide_eq_false (by omega)
 have hle:l.length≤1000000000:=by omega
 unfold z1e z1m Qw z0c
 rw [hg,hg']
 simp only [h50,Option.bind_some,Bool.false_eq_true,if_false,hle,if_true]
 exact z95 l 0 [] 0 h (by omega) (by simp [Lib.join]) (by simp)
theorem y3w (l:List zg) (hl:l.length≤50) (h:∀ x,x∈l→x.Params.length≤100):z1t l l=some true:=by
 have h1:∀ x,x∈l→xk x x=some true:=fun x hx=>by
  have hp:z3s x.Params x.Params=some true:=y7u (fun (x y:zt) => !((x.Name == y.Name) && ((x.Value == y.Value) && true))) (fun x=>by simp) x.Params (by have:=h x hx; omega)
  unfold xk Yt
  rw [hp]
  simp
 unfold z1t z3t
 rw [if_neg (by simp),if_pos (by omega)]
 have:=Yu (body:=fun (k:Nat) (x:zg) (s:Unit)=>Qi l (fun (a0:zg) (a1:zg)=>xk a0 a1) k x) (fin:=fun (s:Unit)=>z28) (p:=fun _ _=>true) (e:=true) (r0:=false) rfl l 0 (fun j x _ hx=>by
  have hx:l[j]?=some x:=by simpa using hx
  show Qi l (fun (a0:zg) (a1:zg)=>xk a0 a1) j x=_
  unfold Qi
  simp only [hx,Option.bind_some,h1 x (List.mem_of_getElem? hx)]
  rfl)
 rw [this]
 rw [z2k]
 simp
theorem y5e (L:List Int):z36 L=some true:=by
 refine y43 ?_
 unfold z36
 refine yq (y5h (k:=0) ⟨by simp,by simp⟩ (by omega)) fun r2 h2=>yq (y7g h2.2 (by omega)) fun r4 h4 => ?_
 obtain ⟨r,r1,r2',r3,r5⟩:=y4p r2.1 (by have:=h2.1; omega)
 obtain ⟨t,t1,t2⟩:=y2k r4.1 h4.1.1 h4.1.2
 rw [r1,r2',t1,t2]
 simp only [Option.bind_some]
 rw [y3w r.1 r3 fun x hx=>(r5 x hx).2]
 simp only [Option.bind_some,decide_true,if_true]
 rw [y3n]
 exact wa rfl
end Go.Proofs.YtpjjkhcojjcdpaaGreatDoor
