/- Plain: the law TopSameTarget is true for every list of numbers. -/
import Derived.Test.YtbndlmnjeofkdaaGreatDoorEdZs
namespace Go.Proofs.YtbndlmnjeofkdaaGreatDoor
set_option linter.unusedVariables false
set_option maxRecDepth 20000
def uOK (a b:UInt8):Prop:=pcU (h2 a b)=[37,a,b]∧frU (h2 a b)=false∧(isH a && isH b)=true
inductive Nb:Bs→Prop
 | nil:Nb []
 | cons (c:UInt8) (r:Bs):c≠37→Nb r→Nb (c::r)
 | unit (a b:UInt8) (r:Bs):uOK a b→Nb r→Nb (37::a::b::r)
noncomputable def pcK (c:UInt8):Bool:=frU c || (match pcU c with
 | [x,a,b]=>decide (x=37) && (decide (h2 a b=c) && (decide (pcU (h2 a b)=[37,a,b]) && (!frU (h2 a b) && (isH a && isH b))))
 | _=>false)
theorem x8m (c:UInt8) (h:frU c=false):∃ a b,pcU c=[37,a,b]∧uOK a b∧h2 a b=c:=by
 have:=wh pcK (by decide +kernel) c
 unfold pcK at this
 rw [h,Bool.false_or] at this
 split at this
 ·rename_i x a b e
  simp only [Bool.and_eq_true,decide_eq_true_eq,Bool.not_eq_true'] at this
  obtain ⟨h1,h2',h3,h4,h5⟩:=this
  exact ⟨a,b,by rw [e,h1],⟨h3,h4,by simp [h5]⟩,h2'⟩
 ·cases this
theorem w23 (c:UInt8) (h:frU c=true):c≠37:=fun e=>by
 subst e
 have:frU 37=false:=by decide +kernel
 rw [this] at h; cases h
theorem x4b (s:Bs):∀ u,uns s=some u→∀ p,p∈u→p.2=true→p.1≠37:=by
 refine z1v (P:=fun s=>∀ u,uns s=some u→∀ p,p∈u→p.2=true→p.1≠37) (fun u h p hp=>by cases h; cases hp) (fun r h1 h2 _ u h=>by rw [h1] at h; cases h) (fun a b t hh ih u h p hp h2 => ?_) (fun c r hc ih u h p hp h2 => ?_) s
 ·rw [Yf,hh,if_pos rfl] at h
  cases hq:uns t with
  | none=>rw [hq] at h; cases h
  | some e =>
   rw [hq] at h; cases h
   rcases List.mem_cons.1 hp with rfl | hp
   ·cases h2
   ·exact ih e hq p hp h2
 ·rw [Za hc] at h
  cases hq:uns r with
  | none=>rw [hq] at h; cases h
  | some e =>
   rw [hq] at h; cases h
   rcases List.mem_cons.1 hp with rfl | hp
   ·exact hc
   ·exact ih e hq p hp h2
theorem y9l {a:Bs} (ha:Nb a) {b:Bs} (hb:Nb b):Nb (a++b):=by
 induction ha with
 | nil=>exact hb
 | cons c r hc _ ih=>exact .cons c _ hc ih
 | unit x y r h _ ih=>exact .unit x y _ h ih
theorem z2g (p:UInt8×Bool) (u:List (UInt8×Bool)):nrm (p::u)=nU p++nrm u:=by unfold nrm; rw [List.flatMap_cons]
theorem x9b (p:UInt8×Bool) (h:p.2=true→p.1≠37):Nb (nU p):=by
 unfold nU
 cases h2:p.2
 ·cases hf:frU p.1
  ·obtain ⟨a,b,h3,h4,_⟩:=x8m p.1 hf
   rw [Bool.false_or,if_neg (by simp),h3]
   exact .unit a b [] h4 .nil
  ·rw [Bool.or_true,if_pos rfl]
   exact .cons _ _ (w23 _ hf) .nil
 ·rw [Bool.true_or,if_pos rfl]
  exact .cons _ _ (h h2) .nil
theorem y9j:∀ u:List (UInt8×Bool),(∀ p,p∈u→p.2=true→p.1≠37)→Nb (nrm u)
 | [],_ => .nil
 | p::u,h=>by
  rw [z2g]
  exact y9l (x9b p (h p (by simp))) (y9j u fun q hq=>h q (List.mem_cons_of_mem _ hq))
theorem x4c {s:Bs} (h:Nb s):∃ u,uns s=some u∧nrm u=s:=by
 induction h with
 | nil=>exact ⟨[],rfl,rfl⟩
 | cons c r hc _ ih =>
  obtain ⟨u,h1,h2⟩:=ih
  refine ⟨(c,true)::u,by rw [Za hc,h1]; rfl,?_⟩
  rw [z2g,h2]; rfl
 | unit a b r h _ ih =>
  obtain ⟨u,h1,h3⟩:=ih
  refine ⟨(h2 a b,false)::u,by rw [Yf,h.2.2,if_pos rfl,h1]; rfl,?_⟩
  rw [z2g,h3]
  unfold nU
  rw [Bool.false_or,if_neg (by simp [h.2.1]),h.1]; rfl
theorem z89 (c x:UInt8) (h:x≠c) (r:Bs):∃ p ps,spl c r=p::ps∧spl c (x::r)=(x::p)::ps:=by
 have hn:=z9c c r
 cases hs:spl c r with
 | nil=>exact absurd hs hn
 | cons p ps=>exact ⟨p,ps,rfl,by rw [Zi,if_neg h,hs]⟩
theorem x05 (a:UInt8) (h:isH a=true):a≠47:=fun e=>by subst e; exact absurd h (by decide)
theorem x9a {s:Bs} (h:Nb s):∀ x,x∈spl 47 s→Nb x:=by
 induction h with
 | nil=>intro x hx; obtain rfl:x=[]:=(by simpa [spl] using hx); exact .nil
 | cons c r hc _ ih =>
  intro x hx
  by_cases h47:c=47
  ·rw [Zi,if_pos h47] at hx
   rcases List.mem_cons.1 hx with rfl | hx
   ·exact .nil
   ·exact ih x hx
  ·obtain ⟨p,ps,e1,e2⟩:=z89 47 c h47 r
   rw [e2] at hx
   rcases List.mem_cons.1 hx with rfl | hx
   ·exact .cons c p hc (ih p (by rw [e1]; simp))
   ·exact ih x (by rw [e1]; exact List.mem_cons_of_mem _ hx)
 | unit a b r h _ ih =>
  intro x hx
  have hh:=h.2.2
  rw [Bool.and_eq_true] at hh
  obtain ⟨p,ps,e1,e2⟩:=z89 47 b (x05 b hh.2) r
  have e3:spl 47 (a::b::r)=(a::b::p)::ps:=by rw [Zi,if_neg (x05 a hh.1),e2]
  have e4:spl 47 (37::a::b::r)=(37::a::b::p)::ps:=by rw [Zi,if_neg (by decide),e3]
  rw [e4] at hx
  rcases List.mem_cons.1 hx with rfl | hx
  ·exact .unit a b p h (ih p (by rw [e1]; simp))
  ·exact ih x (by rw [e1]; exact List.mem_cons_of_mem _ hx)
theorem y4w (c:UInt8) (x y:Bs) (l:List Bs):Lib.join (x::y::l) [c]=x++c::Lib.join (y::l) [c]:=by
 rw [Lib.join_cons,Lib.join_cons]
 simp [Lib.joinTail]
theorem y9k:∀ l:List Bs,(∀ x,x∈l→Nb x)→Nb (Lib.join l [47])
 | [],_ => .nil
 | [x],h=>by rw [Lib.join_one]; exact h x (by simp)
 | x::y::l,h=>by
  rw [y4w]
  exact y9l (h x (by simp)) (.cons 47 _ (by decide) (y9k (y::l) fun z hz=>h z (List.mem_cons_of_mem _ hz)))
theorem y4v (c:UInt8):∀ (V:List Bs) (d:UInt8),d∈Lib.join V [c]→d=c∨∃ v,v∈V∧d∈v
 | [],d,h=>by cases h
 | [x],d,h => .inr ⟨x,by simp,by rw [Lib.join_one] at h; exact h⟩
 | x::y::l,d,h=>by
  rw [y4w] at h
  rcases List.mem_append.1 h with h | h
  ·exact .inr ⟨x,by simp,h⟩
  ·rcases List.mem_cons.1 h with h | h
   ·exact .inl h
   ·rcases y4v c (y::l) d h with h | ⟨v,h1,h2⟩
    ·exact .inl h
    ·exact .inr ⟨v,List.mem_cons_of_mem _ h1,h2⟩
theorem z9a (c:UInt8):∀ (s:Bs) (x:Bs),x∈spl c s→c ∉ x
 | [],x,h=>by obtain rfl:x=[]:=(by simpa [spl] using h); simp
 | d::s,x,h=>by
  by_cases hd:d=c
  ·rw [Zi,if_pos hd] at h
   rcases List.mem_cons.1 h with rfl | h
   ·simp
   ·exact z9a c s x h
  ·obtain ⟨p,ps,e1,e2⟩:=z89 c d hd s
   rw [e2] at h
   rcases List.mem_cons.1 h with rfl | h
   ·have:=z9a c s p (by rw [e1]; simp)
    intro hm
    rcases List.mem_cons.1 hm with hm | hm
    ·exact hd hm.symm
    ·exact this hm
   ·exact z9a c s x (by rw [e1]; exact List.mem_cons_of_mem _ h)
def clS (l:List Bs):Prop:=∀ x,x∈l→x≠[46]∧x≠[46,46]
theorem x2i {st:List Bs} (h:clS st):clS st.dropLast:=fun x hx=>h x (List.dropLast_subset st hx)
theorem y1k {st:List Bs} (h:clS st) {x:Bs} (hx:x≠[46]∧x≠[46,46]):clS (st++[x]):=fun y hy=>by
 rcases List.mem_append.1 hy with hy | hy
 ·exact h y hy
 ·obtain rfl:y=x:=by simpa using hy
  exact hx
theorem w36 {st:List Bs} (h:clS st) (x:Bs):clS (sg1 st x):=by
 unfold sg1
 split
 ·exact h
 ·split
  ·exact x2i h
  ·exact y1k h ⟨by assumption,by assumption⟩
theorem w35 {st:List Bs} (h:clS st) (x:Bs):clS (sgL st x):=by
 unfold sgL
 split
 ·exact y1k h ⟨by simp,by simp⟩
 ·split
  ·exact y1k (x2i h) ⟨by simp,by simp⟩
  ·exact y1k h ⟨by assumption,by assumption⟩
theorem x2h:∀ (l st:List Bs),clS st→clS (fwS st l)
 | [],st,h=>h
 | [x],st,h=>w35 h x
 | x::y::l,st,h=>x2h (y::l) (sg1 st x) (w36 h x)
theorem x1g:∀ (l st:List Bs),clS l→fwS st l=st++l
 | [],st,_=>by simp [fwS]
 | [x],st,h=>by
  have:=h x (by simp)
  show sgL st x=_
  unfold sgL
  rw [if_neg this.1,if_neg this.2]
 | x::y::l,st,h=>by
  have:=h x (by simp)
  show fwS (sg1 st x) (y::l)=_
  rw [x1g (y::l) (sg1 st x) fun z hz=>h z (List.mem_cons_of_mem _ hz)]
  unfold sg1
  rw [if_neg this.1,if_neg this.2]
  simp
theorem x1e:∀ (l st:List Bs),l≠[]→fwS st l≠[]
 | [],st,h=>absurd rfl h
 | [x],st,_=>by
  show sgL st x≠[]
  unfold sgL
  split
  ·simp
  ·split <;> simp
 | x::y::l,st,_=>x1e (y::l) (sg1 st x) (by simp)
theorem x1f:∀ (l st:List Bs) (x:Bs),x∈fwS st l→x∈st∨x∈l∨x=[]
 | [],st,x,h => .inl h
 | [y],st,x,h=>by
  rcases y8f (show x∈sgL st y from h) with h | h | h
  ·exact .inl h
  ·exact .inr (.inl (by simp [h]))
  ·exact .inr (.inr h)
 | y::z::l,st,x,h=>by
  rcases x1f (z::l) (sg1 st y) x h with h | h | h
  ·rcases y8g h with h | h
   ·exact .inl h
   ·exact .inr (.inl (by simp [h]))
  ·exact .inr (.inl (List.mem_cons_of_mem _ h))
  ·exact .inr (.inr h)
def szS (l:List Bs):Nat:=(l.map fun x=>x.length+1).sum
theorem z5k (a b:List Bs):szS (a++b)=szS a+szS b:=by simp [szS]
theorem y7h (st:List Bs):szS st.dropLast≤szS st:=by
 rcases List.eq_nil_or_concat st with rfl | ⟨a,x,rfl⟩
 ·simp
 ·rw [List.concat_eq_append,List.dropLast_concat,z5k]; omega
theorem x5o (st:List Bs) (x:Bs):szS (sg1 st x)≤szS st+(x.length+1):=by
 have:=y7h st
 unfold sg1
 split
 ·omega
 ·split
  ·omega
  ·rw [z5k]; simp [szS]
theorem x5n (st:List Bs) (x:Bs):szS (sgL st x)≤szS st+(x.length+1):=by
 have:=y7h st
 have e:szS [[]]=1:=rfl
 unfold sgL
 split
 ·rw [z5k,e]; omega
 ·split
  ·rw [z5k,e]; omega
  ·rw [z5k]; simp [szS]
theorem y7g:∀ (l st:List Bs),szS (fwS st l)≤szS st+szS l
 | [],st=>by simp [fwS]
 | [x],st=>by
  have:=x5n st x
  have e:szS [x]=x.length+1:=by simp [szS]
  rw [e]; exact this
 | x::y::l,st=>by
  have h1:=x5o st x
  have h2:=y7g (y::l) (sg1 st x)
  have e:szS (x::y::l)=x.length+1+szS (y::l):=by simp [szS]
  show szS (fwS (sg1 st x) (y::l))≤_
  rw [e]; omega
theorem x0u (c:UInt8):∀ l:List Bs,l≠[]→(Lib.join l [c]).length+1=szS l
 | [],h=>absurd rfl h
 | [x],_=>by rw [Lib.join_one]; simp [szS]
 | x::y::l,_=>by
  have:=x0u c (y::l) (by simp)
  rw [y4w,List.length_append,List.length_cons]
  have e:szS (x::y::l)=x.length+1+szS (y::l):=by simp [szS]
  rw [e]; omega
theorem y78 (c:UInt8):∀ s:Bs,szS (spl c s)=s.length+1
 | []=>rfl
 | d::s=>by
  have ih:=y78 c s
  by_cases hd:d=c
  ·rw [Zi,if_pos hd]
   have e:szS ([]::spl c s)=1+szS (spl c s):=by simp [szS]
   rw [e,ih,List.length_cons]; omega
  ·obtain ⟨p,ps,e1,e2⟩:=z89 c d hd s
   rw [e1] at ih
   rw [e2]
   have e3:szS (p::ps)=p.length+1+szS ps:=by simp [szS]
   have e4:szS ((d::p)::ps)=p.length+1+1+szS ps:=by simp [szS]
   rw [e3] at ih
   rw [e4,List.length_cons]; omega
def gdC (c:UInt8):Bool := !outP (c.toNat:Int) 33 126 && !([63,35]:Bs).contains c
theorem w2t (c:UInt8) (h:frU c=true):gdC c=true:=by
 have:=wh (fun c => !frU c || gdC c) (by decide +kernel) c
 rw [h] at this
 simpa using this
theorem w2s (c:UInt8):(pcU c).all gdC=true:=wh (fun c=>(pcU c).all gdC) (by decide +kernel) c
theorem x83 (s:Bs):∀ u,uns s=some u→s.all gdC=true→(nrm u).all gdC=true∧(nrm u).length≤s.length:=by
 refine z1v (P:=fun s=>∀ u,uns s=some u→s.all gdC=true→(nrm u).all gdC=true∧(nrm u).length≤s.length) (fun u h _=>by cases h; exact ⟨rfl,by simp [nrm]⟩) (fun r h1 h2 _ u h=>by rw [h1] at h; cases h) (fun a b t hh ih u h hg => ?_) (fun c r hc ih u h hg => ?_) s
 ·rw [Yf,hh,if_pos rfl] at h
  simp only [List.all_cons,Bool.and_eq_true] at hg
  cases hq:uns t with
  | none=>rw [hq] at h; cases h
  | some e =>
   rw [hq] at h; cases h
   have h1:=ih e hq hg.2.2.2
   have h2':=z9s (h2 a b,false)
   rw [z2g,List.all_append,Bool.and_eq_true,List.length_append]
   refine ⟨⟨?_,h1.1⟩,by simp only [List.length_cons]; omega⟩
   unfold nU
   split
   ·rename_i hf
    simp only [Bool.false_or] at hf
    simp [w2t _ hf]
   ·exact w2s _
 ·rw [Za hc] at h
  simp only [List.all_cons,Bool.and_eq_true] at hg
  cases hq:uns r with
  | none=>rw [hq] at h; cases h
  | some e =>
   rw [hq] at h; cases h
   have h1:=ih e hq hg.2
   rw [z2g,List.all_append,Bool.and_eq_true,List.length_append]
   have e1:nU (c,true)=[c]:=rfl
   rw [e1]
   exact ⟨⟨by simp [hg.1],h1.1⟩,by simp only [List.length_cons,List.length_nil]; omega⟩
theorem w2r {s:Bs} (h:pthB s=true):s.length≤1000∧(∃ r,s=47::r)∧s.all gdC=true:=by
 unfold pthB at h
 simp only [Bool.and_eq_true,decide_eq_true_eq,Bool.not_eq_true'] at h
 obtain ⟨h1,h2,h3,h4⟩:=h
 refine ⟨by omega,?_,?_⟩
 ·cases s with
  | nil=>simp [Lib.hasPrefix] at h2
  | cons c r =>
   refine ⟨r,?_⟩
   have:c=47:=by
    unfold Lib.hasPrefix at h2
    simp [List.isPrefixOf] at h2
    exact h2.symm
   rw [this]
 ·rw [x2w] at h4
  refine List.all_eq_true.2 fun c hc => ?_
  unfold rgB at h3
  have h5:=List.all_eq_true.1 h3 c hc
  have h6:=List.any_eq_false.1 h4 c hc
  unfold gdC
  rw [h5]
  simpa using h6
theorem x8f {j:Bs} (hl:j.length+1≤1000) (hg:j.all gdC=true):pthB (47::j)=true:=by
 unfold pthB
 simp only [Bool.and_eq_true,decide_eq_true_eq,Bool.not_eq_true']
 refine ⟨by simp only [List.length_cons]; omega,by simp [Lib.hasPrefix,List.isPrefixOf],?_,?_⟩
 ·unfold rgB
  refine List.all_eq_true.2 fun c hc => ?_
  rcases List.mem_cons.1 hc with rfl | hc
  ·decide
  ·have:=List.all_eq_true.1 hg c hc
   unfold gdC at this
   rw [Bool.and_eq_true] at this
   exact this.1
 ·rw [x2w]
  refine List.any_eq_false.2 fun c hc => ?_
  rcases List.mem_cons.1 hc with rfl | hc
  ·decide
  ·have:=List.all_eq_true.1 hg c hc
   unfold gdC at this
   rw [Bool.and_eq_true] at this
   simpa using this.2
theorem y84 {s p:Bs} (h:npF s=(p,0)):pthB p=true∧npF p=(p,0)∧p.length≤1000:=by
 unfold npF at h
 cases hp:pthB s
 ·rw [hp] at h; simp at h
 ·rw [hp] at h
  simp only [if_true] at h
  obtain ⟨hl,⟨r,rfl⟩,hg⟩:=w2r hp
  rw [Za (by decide)] at h
  cases hu:uns r with
  | none=>rw [hu] at h; simp at h
  | some u =>
   rw [hu] at h
   simp only [Option.map_some] at h
   have e1:(nrm ((47,true)::u)).drop 1=nrm u:=by rw [z2g]; rfl
   rw [e1] at h
   have hg2:r.all gdC=true:=by rw [List.all_cons,Bool.and_eq_true] at hg; exact hg.2
   obtain ⟨g1,g2⟩:=x83 r u hu hg2
   have hnb:=y9j u (x4b r u hu)
   have hnbs:=x9a hnb
   have hne:=x1e (spl 47 (nrm u)) [] (z9c 47 _)
   have hcl:clS (fwS [] (spl 47 (nrm u))):=x2h _ [] (fun x hx=>by cases hx)
   have hin:=x1f (spl 47 (nrm u)) []
   have hsz:=y7g (spl 47 (nrm u)) []
   rw [y78] at hsz
   have e0:szS []=0:=rfl
   rw [e0] at hsz
   generalize fwS [] (spl 47 (nrm u))=S at *
   have hpj:47::Lib.join S [47]=p:=(Prod.mk.inj h).1
   have hjs:=x0u 47 S hne
   have hjl:(Lib.join S [47]).length+1≤1000:=by simp only [List.length_cons] at hl; omega
   have hS:∀ x,x∈S→x∈spl 47 (nrm u)∨x=[]:=fun x hx=>by
    rcases hin x hx with h | h | h
    ·cases h
    ·exact .inl h
    ·exact .inr h
   have hjg:(Lib.join S [47]).all gdC=true:=by
    refine List.all_eq_true.2 fun c hc => ?_
    rcases y4v 47 S c hc with rfl | ⟨v,h1,h2⟩
    ·decide
    ·rcases hS v h1 with h3 | rfl
     ·exact List.all_eq_true.1 g1 c (y2r 47 _ v h3 c h2)
     ·cases h2
   have hpth:=x8f hjl hjg
   rw [hpj] at hpth
   have hNb:Nb p:=by
    rw [← hpj]
    refine .cons 47 _ (by decide) (y9k S fun x hx => ?_)
    rcases hS x hx with h3 | rfl
    ·exact hnbs x h3
    ·exact .nil
   obtain ⟨u',u1,u2⟩:=x4c hNb
   refine ⟨hpth,?_,by rw [← hpj,List.length_cons]; omega⟩
   have hsp:spl 47 (Lib.join S [47])=S:=by
    rw [z9d 47 S hne]
    have:∀ l:List Bs,(∀ x,x∈l→(47:UInt8) ∉ x)→(l.map (spl 47)).flatten=l:=by
     intro l
     induction l with
     | nil=>intro _; rfl
     | cons x l ih =>
      intro h
      rw [List.map_cons,List.flatten_cons,z9b 47 x (h x (by simp)),ih fun y hy=>h y (List.mem_cons_of_mem _ hy)]; rfl
    refine this S fun x hx => ?_
    rcases hS x hx with h3 | rfl
    ·exact z9a 47 _ x h3
    ·simp
   unfold npF
   rw [hpth,if_pos rfl,u1]
   simp only
   rw [u2,← hpj]
   rw [show (47::Lib.join S [47]).drop 1=Lib.join S [47] from rfl,hsp,x1g S [] hcl]
   rfl
noncomputable def qcK (c:UInt8):Bool:=match qcQ c with
 | [x]=>(decide (x=43) && decide (c=32)) || (decide (x=c) && (decide (c≠37) && decide (c≠43)))
 | [x,a,b]=>decide (x=37) && ((isH a && isH b) && decide (h2 a b=c))
 | _=>false
theorem x8c (c:UInt8):(qcQ c=[43]∧c=32)∨(qcQ c=[c]∧c≠37∧c≠43)∨∃ a b,qcQ c=[37,a,b]∧(isH a && isH b)=true∧h2 a b=c:=by
 have:=wh qcK (by decide +kernel) c
 unfold qcK at this
 split at this
 ·rename_i x e
  simp only [Bool.or_eq_true,Bool.and_eq_true,decide_eq_true_eq] at this
  rcases this with ⟨h1,h3⟩ | ⟨h1,h3,h4⟩
  ·exact .inl ⟨by rw [e,h1],h3⟩
  ·exact .inr (.inl ⟨by rw [e,h1],h3,h4⟩)
 ·rename_i x a b e
  simp only [Bool.and_eq_true,decide_eq_true_eq] at this
  obtain ⟨h1,⟨h3,h4⟩,h5⟩:=this
  exact .inr (.inr ⟨a,b,by rw [e,h1],by rw [h3,h4]; rfl,h5⟩)
 ·cases this
def gdQ (d:UInt8):Bool := !outP (d.toNat:Int) 33 126 && (decide (d≠35) && (decide (d≠38) && decide (d≠61)))
theorem x8b (c:UInt8):(qcQ c).all gdQ=true:=wh (fun c=>(qcQ c).all gdQ) (by decide +kernel) c
theorem w3o (c:UInt8) (rest:Bs):dec true (qcQ c++rest)=(dec true rest).map (c :: ·):=by
 rcases x8c c with ⟨h1,h3⟩ | ⟨h1,h3,h4⟩ | ⟨a,b,h1,h3,h4⟩
 ·rw [h1,h3]
  show dec true (43::rest)=_
  rw [kt true (by decide)]
  have:pl true 43=32:=by decide
  rw [this]
 ·rw [h1]
  show dec true (c::rest)=_
  rw [kt true h3]
  have:pl true c=c:=by unfold pl; rw [if_neg (by simp [h4])]
  rw [this]
 ·rw [h1]
  show dec true (37::a::b::rest)=_
  rw [jw,h3,if_pos rfl,h4]
theorem y8y (c:UInt8) (s:Bs):qwQ (c::s)=qcQ c++qwQ s:=by unfold qwQ; rw [List.flatMap_cons]
theorem y1i:∀ s:Bs,dec true (qwQ s)=some s
 | []=>rfl
 | c::s=>by rw [y8y,w3o,y1i s]; rfl
theorem y6k (s:Bs):vdQ (qwQ s)=true:=by
 unfold vdQ
 rw [← x2a _ (qwQ s) (Nat.le_refl _),y1i]; rfl
theorem z5v (s:Bs):(qwQ s).all gdQ=true:=by
 induction s with
 | nil=>rfl
 | cons c s ih=>rw [y8y,List.all_append,x8b,ih]; rfl
theorem y45 {s:Bs} (h:s.all gdQ=true) {d:UInt8} (hd:gdQ d=false):d ∉ s:=fun hm=>by
 rw [List.all_eq_true.1 h d hm] at hd; cases hd
noncomputable def wpQ (p:zj):Bs:=(qwQ p.Name++[61])++qwQ p.Value
theorem z43 (p:zj):wpQ p=qwQ p.Name++61::qwQ p.Value:=by unfold wpQ; simp
theorem y6a (p:zj):Lib.cut (wpQ p) [61]=(qwQ p.Name,qwQ p.Value,true):=by
 rw [z43,z77 61 _ _ (y45 (z5v _) (by decide))]
theorem x3l (p:zj):prQ (wpQ p)=p:=by
 unfold prQ
 rw [y6a,y1i,y1i]; rfl
theorem x3k (p:zj):vdQ (wpQ p)=true:=by rw [y5m,y6a,y6k,y6k]; rfl
theorem x3n (p:zj):wpQ p≠[]:=by rw [z43]; simp
theorem x3m (p:zj):(38:UInt8) ∉ wpQ p:=by
 rw [z43]
 intro h
 rcases List.mem_append.1 h with h | h
 ·exact y45 (z5v _) (by decide) h
 ·rcases List.mem_cons.1 h with h | h
  ·cases h
  ·exact y45 (z5v _) (by decide) h
theorem x3o (p:zj) (h:p.Name.length≤1000∧p.Value.length≤1000):(wpQ p).length≤10000:=by
 have h1:=z2f p.Name
 have h3:=z2f p.Value
 rw [z43,List.length_append,List.length_cons]
 omega
def gdR (d:UInt8):Bool := !outP (d.toNat:Int) 33 126 && decide (d≠35)
theorem gdQR (d:UInt8) (h:gdQ d=true):gdR d=true:=by
 unfold gdQ at h
 unfold gdR
 rw [Bool.and_eq_true] at h ⊢
 rw [Bool.and_eq_true] at h
 exact ⟨h.1,h.2.1⟩
theorem x3p (p:zj):(wpQ p).all gdR=true:=by
 rw [z43]
 refine List.all_eq_true.2 fun d hd => ?_
 rcases List.mem_append.1 hd with hd | hd
 ·exact gdQR d (List.all_eq_true.1 (z5v _) d hd)
 ·rcases List.mem_cons.1 hd with rfl | hd
  ·decide
  ·exact gdQR d (List.all_eq_true.1 (z5v _) d hd)
theorem y7a:∀ (l:List zj) (k:Nat) (q:List Bs),(∀ p,p∈l→(p.Name.length≤1000∧p.Value.length≤1000)∧nilP p=false)→q.length+l.length≤100000→forL (fun (k:Nat) (x:zj) (s:(List Bs))=>Zl k x s) (fun (s:(List Bs))=>Wn s) k l q=Wn (q++l.map wpQ)
 | [],k,q,_,_=>by simp [forL]
 | p::l,k,q,h,hq=>by
  simp only [List.length_cons] at hq
  obtain ⟨h1,h3⟩:=h p (by simp)
  have q1:=z2f p.Name
  have q2:=z2f p.Value
  have e:Zl k p q=some (.inl (q++[wpQ p])):=by
   unfold Zl
   rw [show ((p.Name == []) && ((p.Value == []) && true))=false from h3]
   simp only [Bool.false_eq_true,if_false]
   rw [(z1u p.Name (by omega)).1,(z1u p.Value (by omega)).1]
   simp only [Option.bind_some]
   rw [if_pos (by simp; omega),if_pos (by simp; omega),if_pos (by omega)]; rfl
  show (Zl k p q).bind _=_
  rw [e]
  have:=y7a l (k+1) (q++[wpQ p]) (fun y hy=>h y (List.mem_cons_of_mem _ hy)) (by simp; omega)
  rw [show q++(p::l).map wpQ=(q++[wpQ p])++l.map wpQ by simp]
  exact this
theorem x8a {l:List zj} {t:Bs} (hl:l.length≤100) (h:∀ p,p∈l→(p.Name.length≤1000∧p.Value.length≤1000)∧nilP p=false) (ht:ky l=some (t,0)):t=Lib.join (l.map wpQ) [38]∧t.length≤1000:=by
 unfold ky at ht
 rw [if_neg (by simp; omega),if_pos (by omega),y7a l 0 [] h (by simp; omega),List.nil_append] at ht
 unfold Wn vu at ht
 have hj:=z0s 10000 [38] (l.map wpQ) (fun x hx=>by
  obtain ⟨p,hp,rfl⟩:=List.mem_map.1 hx
  exact x3o p (h p hp).1)
 rw [List.length_map] at hj
 have hj2:l.length * (10000+([38]:Bs).length)≤100 * 10001:=Nat.mul_le_mul hl (by decide)
 rw [if_pos ⟨by rw [List.length_map]; omega,by omega⟩] at ht
 simp only [Option.bind_some] at ht
 by_cases h1:1000 < ((Lib.join (l.map wpQ) [38]).length:Int)
 ·rw [if_pos (by simpa using h1)] at ht; cases ht
 ·rw [if_neg (by simpa using h1)] at ht
  have:=(Prod.mk.inj (Option.some.inj ht)).1
  exact ⟨this.symm,by rw [← this]; omega⟩
theorem y77 (l:List zj) (hn:l≠[]):spl 38 (Lib.join (l.map wpQ) [38])=l.map wpQ:=y2q (l.map wpQ) (fun x hx=>by
 obtain ⟨p,hp,rfl⟩:=List.mem_map.1 hx
 exact x3m p) (by simpa using hn)
theorem y68 (l:List zj) (ht:(Lib.join (l.map wpQ) [38]).length≤1000):qryB (Lib.join (l.map wpQ) [38])=true:=by
 have hg:(Lib.join (l.map wpQ) [38]).all gdR=true:=by
  refine List.all_eq_true.2 fun c hc => ?_
  rcases y4v 38 _ c hc with rfl | ⟨v,h1,h3⟩
  ·decide
  ·obtain ⟨p,hp,rfl⟩:=List.mem_map.1 h1
   exact List.all_eq_true.1 (x3p p) c h3
 unfold qryB
 simp only [Bool.and_eq_true,decide_eq_true_eq,Bool.not_eq_true']
 refine ⟨by omega,?_,?_⟩
 ·unfold rgB
  refine List.all_eq_true.2 fun c hc => ?_
  have:=List.all_eq_true.1 hg c hc
  unfold gdR at this
  rw [Bool.and_eq_true] at this
  exact this.1
 ·rw [w2o]
  have:(35:UInt8) ∉ Lib.join (l.map wpQ) [38]:=fun hm=>by
   have:=List.all_eq_true.1 hg 35 hm
   exact absurd this (by decide)
  simpa using this
theorem x8s (l:List zj) (hl:l.length≤100) (ht:(Lib.join (l.map wpQ) [38]).length≤1000):kz (Lib.join (l.map wpQ) [38])=some (l,0):=by
 have hq:=y68 l ht
 unfold kz
 rw [z5w _ (by omega),hq]
 simp only [Option.bind_some,if_true]
 rw [if_neg (by decide)]
 have hsp:ve (Lib.join (l.map wpQ) [38]) [38]=some (spl 38 (Lib.join (l.map wpQ) [38])):=by
  unfold ve
  rw [if_pos ⟨by omega,by simp⟩,Yl]
 rw [hsp]
 simp only [Option.bind_some]
 have hsl:=Wb 38 (Lib.join (l.map wpQ) [38])
 rw [if_pos (by omega),y0c _ 0 [] (fun x hx=>by have:=Zh 38 _ x hx; omega) (by simp; omega)]
 have hE:xl l=some (l,0):=by
  unfold xl
  rw [if_neg (by simp; omega)]
 by_cases hn:l=[]
 ·subst hn
  rw [show spl 38 (Lib.join (([]:List zj).map wpQ) [38])=[[]] from rfl]
  rw [if_pos (by decide +kernel)]
  exact hE
 ·rw [y77 l hn,if_pos (by
   refine List.all_eq_true.2 fun x hx => ?_
   obtain ⟨p,hp,rfl⟩:=List.mem_map.1 hx
   exact x3k p)]
  have:prs (l.map wpQ)=l:=by
   unfold prs
   rw [List.filter_eq_self.2 (fun x hx=>by
    obtain ⟨p,hp,rfl⟩:=List.mem_map.1 hx
    simp [x3n p]),List.map_map]
   have:(prQ ∘ wpQ)=id:=by funext p; exact x3l p
   rw [this]; simp
  rw [List.nil_append,this]
  exact hE
theorem x5f (l:List zj) (hl:l.length≤12):qOK (Lib.join (l.map wpQ) [38]):=by
 refine .inl ?_
 by_cases hn:l=[]
 ·subst hn; decide
 ·rw [y77 l hn,List.length_map]; exact hl
/- pairs in order -/
section
variable {α:Type} {p:α→α→Option Int}
def adjS (p:α→α→Option Int):List α→Prop
 | x::y::l=>(∃ c,p y x=some c∧¬ c < 0)∧adjS p (y::l)
 | _=>True
theorem x3d:∀ (A:List α) (y x:α) (B:List α),adjS p (A++[y])→adjS p (x::B)→(∃ c,p x y=some c∧¬ c < 0)→adjS p (A++y::x::B)
 | [],y,x,B,_,h2,h3=>⟨h3,h2⟩
 | [a],y,x,B,h1,h2,h3=>⟨h1.1,h3,h2⟩
 | a::b::A,y,x,B,h1,h2,h3=>⟨h1.1,x3d (b::A) y x B h1.2 h2 h3⟩
theorem x3a:∀ (A B:List α),adjS p (A++B)→adjS p A
 | [],B,_=>trivial
 | [a],B,_=>trivial
 | a::b::A,B,h=>⟨h.1,x3a (b::A) B h.2⟩
theorem x29:∀ (A B:List α),adjS p (A++B)→adjS p B
 | [],B,h=>h
 | [a],[],_=>trivial
 | [a],b::B,h=>h.2
 | a::b::A,B,h=>x29 (b::A) B h.2
theorem x3c:∀ (A:List α) (y x:α) (B:List α),adjS p (A++y::x::B)→∃ c,p x y=some c∧¬ c < 0
 | [],y,x,B,h=>h.1
 | [a],y,x,B,h=>h.2.1
 | a::b::A,y,x,B,h=>x3c (b::A) y x B h.2
def taP (p:α→α→Option Int):Prop:=(∀ u v,∃ c,p u v=some c)∧∀ u v c d,p u v=some c→p v u=some d→c < 0→¬ d < 0
theorem x3b (ta:taP p) (x:α) (B:List α) (hB:adjS p B) (h:∀ b B0,B=b::B0→∃ c,p x b=some c∧c < 0):adjS p (x::B):=by
 cases B with
 | nil=>trivial
 | cons b B0 =>
  obtain ⟨c,h1,h2⟩:=h b B0 rfl
  obtain ⟨d,h3⟩:=ta.1 b x
  exact ⟨⟨d,h3,ta.2 x b c d h1 h3 h2⟩,hB⟩
theorem w16 (ta:taP p) (i:Int) (x:α) (C:List α):∀ (n:Nat) (A B:List α),A.length=n→n≤1000000→adjS p (A++B)→(∀ b B0,B=b::B0→∃ c,p x b=some c∧c < 0) →
  ∃ A' B',A'++B'=A++B∧iter (fun (s:Int×List α)=>gL3 0 p i s.1 s.2) ((n:Int),A++x::(B++C))=some (.inl (wr (i+1),A'++x::(B'++C)))∧adjS p (A'++x::B'):=by
 intro n
 induction n with
 | zero =>
  intro A B hA _ had hB
  obtain rfl:A=[]:=List.length_eq_zero_iff.1 hA
  exact ⟨[],B,rfl,jl (y5c i _),x3b ta x B had hB⟩
 | succ n ih =>
  intro A B hA hn had hB
  obtain ⟨A0,y,rfl⟩:∃ A0 y,A=A0++[y]:=by
   rcases List.eq_nil_or_concat A with rfl | ⟨A0,y,h⟩
   ·simp at hA
   ·exact ⟨A0,y,by simpa using h⟩
  have hA0:A0.length=n:=by simpa using hA
  obtain ⟨c,h1⟩:=ta.1 x y
  subst hA0
  have e1:(A0++[y])++x::(B++C)=A0++y::x::(B++C):=by simp
  by_cases hc:c < 0
  ·obtain ⟨A',B',q1,q2,q3⟩:=ih A0 (y::B) rfl (by omega) (by simpa using had) (fun b B0 e=>by cases e; exact ⟨c,h1,hc⟩)
   refine ⟨A',B',by rw [q1]; simp,?_,q3⟩
   rw [e1]
   exact (z0t (y5d i A0 (B++C) y x (by omega) h1 hc)).trans q2
  ·refine ⟨A0++[y],B,rfl,?_,?_⟩
   ·rw [e1]
    exact jl (y1d i A0 (B++C) y x (by omega) h1 hc)
   ·have:=x3d A0 y x B (x3a _ B had) (x3b ta x B (x29 _ B had) hB) ⟨c,h1,hc⟩
    simpa using this
theorem x0x (ta:taP p) (m:Nat):∀ (rest pre:List α),pre.length+rest.length=m→m≤1000000→adjS p pre →
  ∃ r,r.Perm (pre++rest)∧iter (fun (s:Int×List α)=>gL1 0 (m:Int) p s.1 s.2) ((pre.length:Int),pre++rest)=some r∧adjS p r
 | [],pre,hm,_,had=>by
  refine ⟨pre++[],List.Perm.refl _,jl ?_,by simpa using had⟩
  unfold gL1; rw [if_neg (by simp at hm; simp; omega)]
 | x::rest,pre,hm,hb,had=>by
  simp only [List.length_cons] at hm
  obtain ⟨A',B',q1,q2,q3⟩:=w16 ta (pre.length:Int) x rest pre.length pre [] rfl (by omega) (by simpa using had) (fun b B0 e=>by cases e)
  rw [List.append_nil] at q1
  rw [List.nil_append] at q2
  have hw:wr ((pre.length:Int)+1)=((pre.length+1:Nat):Int):=y1r (by omega)
  have hlen:(A'++x::B').length=pre.length+1:=by
   have:=congrArg List.length q1
   simp at this ⊢; omega
  have hperm:(A'++x::B').Perm (x::pre):=by
   rw [← q1]; exact List.perm_middle
  obtain ⟨r,r1,r2,r3⟩:=x0x ta m rest (A'++x::B') (by rw [hlen]; omega) hb q3
  have e0:A'++x::(B'++rest)=(A'++x::B')++rest:=by simp
  rw [hlen,← hw,← e0] at r2
  have hlt:decide ((pre.length:Int) < (m:Int))=true:=by simp; omega
  refine ⟨r,r1.trans ?_,?_,r3⟩
  ·refine (hperm.append_right rest).trans ?_
   exact List.perm_middle.symm
  ·refine (z0t (s':=(wr ((pre.length:Int)+1),A'++x::(B'++rest))) ?_).trans r2
   unfold gL1
   rw [if_pos hlt]
   exact q2
theorem w21 (ta:taP p) (l:List α) (h:l.length≤1000000):∃ r,r.Perm l∧gIns l 0 (l.length:Int) p=some r∧adjS p r:=by
 have hw:wr ((0:Int)+1)=1:=by decide
 unfold gIns
 rw [hw]
 cases l with
 | nil =>
  refine ⟨[],List.Perm.refl _,jl ?_,trivial⟩
  unfold gL1; rw [if_neg (by simp)]
 | cons x l=>exact x0x ta (x::l).length l [x] (by simp only [List.length_cons,List.length_nil]; omega) h trivial
theorem x0y (m:Nat):∀ (rest A:List α) (y:α),A.length+1+rest.length=m→m≤1000000→adjS p (A++y::rest) →
  iter (fun (s:Int×List α)=>gL1 0 (m:Int) p s.1 s.2) (((A.length+1:Nat):Int),A++y::rest)=some (A++y::rest)
 | [],A,y,hm,_,had=>by
  refine jl ?_
  unfold gL1; rw [if_neg (by simp at hm; simp; omega)]
 | x::rest,A,y,hm,hb,had=>by
  simp only [List.length_cons] at hm
  obtain ⟨c,h1,h2⟩:=x3c A y x rest had
  have hw:wr (((A.length+1:Nat):Int)+1)=((A.length+1+1:Nat):Int):=y1r (by omega)
  have hst:=y1d (p:=p) ((A.length+1:Nat):Int) A rest y x (by omega) h1 h2
  have hlt:decide (((A.length+1:Nat):Int) < (m:Int))=true:=by simp; omega
  have ih:=x0y m rest (A++[y]) x (by simp; omega) hb (by simpa using had)
  have e:(A++[y])++x::rest=A++y::x::rest:=by simp
  rw [e,show (A++[y]).length+1=A.length+1+1 by simp,← hw] at ih
  refine (z0t (s':=(wr (((A.length+1:Nat):Int)+1),A++y::x::rest)) ?_).trans ih
  unfold gL1
  rw [if_pos hlt]
  exact jl hst
theorem w20 (l:List α) (h:l.length≤1000000) (had:adjS p l):gIns l 0 (l.length:Int) p=some l:=by
 have hw:wr ((0:Int)+1)=1:=by decide
 unfold gIns
 rw [hw]
 cases l with
 | nil=>refine jl ?_; unfold gL1; rw [if_neg (by simp)]
 | cons x l=>exact x0y (x::l).length l [] x (by simp; omega) h had
end
theorem w3s (a b:zj) (c d:Int) (h1:vf a b=some c) (h2':vf b a=some d):d=-c:=by
 unfold vf Ww at h1 h2'
 by_cases h:a.Name=b.Name
 ·have h3:b.Name=a.Name:=h.symm
  simp only [h,ne_eq,not_true_eq_false,decide_false,Bool.false_eq_true,if_false,Option.bind_some] at h1
  simp only [h3,ne_eq,not_true_eq_false,decide_false,Bool.false_eq_true,if_false,Option.bind_some] at h2'
  have:=y5p a.Value b.Value
  have e1:=Option.some.inj h1
  have e2:=Option.some.inj h2'
  rw [← e1,← e2]; exact this
 ·have h3:¬ b.Name=a.Name:=fun e=>h e.symm
  simp only [h,ne_eq,not_false_eq_true,decide_true,if_true,Option.bind_some] at h1
  simp only [h3,ne_eq,not_false_eq_true,decide_true,if_true,Option.bind_some] at h2'
  have:=y5p a.Name b.Name
  have e1:=Option.some.inj h1
  have e2:=Option.some.inj h2'
  rw [← e1,← e2]; exact this
theorem x6z (l:List zj) (hl:l.length≤12):∃ r:List zj,r.Perm l∧uk l (fun (a0:zj) (a1:zj)=>vf a0 a1)=some r∧uk r (fun (a0:zj) (a1:zj)=>vf a0 a1)=some r:=by
 have key:∀ (l r:List zj),l.length≤12→r.length=l.length→gIns l 0 (l.length:Int) (fun (a0:zj) (a1:zj)=>vf a0 a1)=some r→uk l (fun (a0:zj) (a1:zj)=>vf a0 a1)=some r:=by
  intro l r hl hlen h
  obtain ⟨v,hv⟩:=lenN l.length hl
  unfold uk
  rw [hv]
  simp only [Option.bind_some]
  have e:z6d l 0 (l.length:Int) v (fun (a0:zj) (a1:zj)=>vf a0 a1)=some r:=x1b l r _ v hl h hlen
  rw [e]
  simp only [Option.bind_some]
  rw [if_pos hlen]
 obtain ⟨r,r1,r2,r3⟩:=w21 (p:=fun (a0:zj) (a1:zj)=>vf a0 a1) ⟨fun u v=>x2f u v,fun u v c d h1 h3 hc=>by have:=w3s u v c d h1 h3; omega⟩ l (by omega)
 have hlen:=r1.length_eq
 exact ⟨r,r1,key l r hl hlen r2,key r r (by omega) rfl (w20 r (by omega) r3)⟩
theorem w2k {l:List zo} (hl:l.length≤50) (h:∀ x,x∈l→tokB x.Name=true∧fldB x.Value=true):hdsE l=0:=by
 have key:∀ (l:List zo) (k:Nat),(∀ x,x∈l→hdE x=0)→feI (fun _ h=>hdE h) k l=0:=by
  intro l
  induction l with
  | nil=>intro _ _; rfl
  | cons y l ih =>
   intro k h
   unfold feI
   rw [if_neg (by simp [h y (by simp)])]
   exact ih (k+1) fun x hx=>h x (List.mem_cons_of_mem _ hx)
 unfold hdsE
 rw [if_neg (by omega)]
 refine key l 0 fun x hx => ?_
 unfold hdE
 rw [(h x hx).1,(h x hx).2]; rfl
theorem haR {l:List zo} (h0:hdsE l=0):haP 100 l:=⟨by have:=z32 h0; omega,fun y hy=>by
 have h:=y0u h0 y hy
 have h1:=z8z h.1
 have h3:=y5h h.2
 exact ⟨⟨by omega,by omega⟩,Qv h.1,by omega⟩⟩
theorem y66 {f:UInt8→UInt8} (hf:∀ c,tokL.contains c=true→tokL.contains (f c)=true) {s:Bs} (h:tokB s=true):tokB (s.map f)=true:=by
 unfold tokB at h ⊢
 simp only [Bool.and_eq_true,decide_eq_true_eq] at h ⊢
 refine ⟨?_,?_,by rw [List.length_map]; exact h.2.2⟩
 ·rw [List.all_map]
  refine List.all_eq_true.2 fun c hc => ?_
  exact hf c (List.all_eq_true.1 h.1 c hc)
 ·cases s with
  | nil=>exact absurd rfl h.2.1
  | cons a b=>simp
theorem x5c {s:Bs} (h:tokB s=true):tokB (lo s)=true:=y66 (f:=Lib.lowerB) (fun c hc=>by
 have:=wh (fun c => !tokL.contains c || tokL.contains (Lib.lowerB c)) (by decide +kernel) c
 rw [hc] at this
 simpa using this) h
theorem x5b {s:Bs} (h:tokB s=true):tokB (Lib.toUpperA s)=true:=y66 (f:=Lib.upperB) (fun c hc=>by
 have:=wh (fun c => !tokL.contains c || tokL.contains (Lib.upperB c)) (by decide +kernel) c
 rw [hc] at this
 simpa using this) h
theorem x38 (s:Bs):Lib.toUpperA (Lib.toUpperA s)=Lib.toUpperA s:=by
 unfold Lib.toUpperA
 rw [List.map_map]
 refine List.map_congr_left fun c _ => ?_
 exact of_decide_eq_true (wh (fun c=>decide (Lib.upperB (Lib.upperB c)=Lib.upperB c)) (by decide +kernel) c)
theorem x9j (s:Bs):lo (lo s)=lo s:=by
 unfold lo Lib.toLowerA
 rw [List.map_map]
 refine List.map_congr_left fun c _ => ?_
 exact of_decide_eq_true (wh (fun c=>decide (Lib.lowerB (Lib.lowerB c)=Lib.lowerB c)) (by decide +kernel) c)
theorem x9g (l:List zo):(l.map lwH).map lwH=l.map lwH:=by
 rw [List.map_map]
 refine List.map_congr_left fun x _ => ?_
 show zo.mk (lo (lo x.Name)) x.Value=zo.mk (lo x.Name) x.Value
 rw [x9j]
theorem w2l {l:List zo} (h:hdsE l=0):hdsE (l.map lwH)=0:=by
 refine w2k (by rw [List.length_map]; exact z32 h) fun y hy => ?_
 obtain ⟨x,hx,rfl⟩:=List.mem_map.1 hy
 have:=y0u h x hx
 exact ⟨x5c this.1,this.2⟩
noncomputable def x03 (s:Bs):Bool:=match z0v s with
 | some true=>(match Yo s with
  | some (h,e)=>decide (h∈vn) && (decide (e=0) && (decide (z0v h=some true) && decide (Yo h=some (h,0))))
  | none=>false)
 | _=>true
theorem w2h:vn.all x03=true:=by decide +kernel
theorem y9h {s:Bs} (hl:s.length≤100000):ua s=Yo s:=by
 unfold ua Yo
 rw [z3r s hl]
theorem w2b {s:Bs} (h:s∈vn) (hi:uz s=some true):∃ g,ua s=some (g,0)∧g∈vn∧uz g=some true∧ua g=some (g,0):=by
 have h1:=List.all_eq_true.1 w2h s h
 have h2':=of_decide_eq_true (List.all_eq_true.1 z7t s h)
 rw [z3r s (by omega)] at hi
 unfold x03 at h1
 rw [hi] at h1
 simp only at h1
 cases hn:Yo s with
 | none=>rw [hn] at h1; cases h1
 | some q =>
  obtain ⟨g,e⟩:=q
  rw [hn] at h1
  simp only [Bool.and_eq_true,decide_eq_true_eq] at h1
  obtain ⟨k1,k2,k3,k4⟩:=h1
  have h3:=of_decide_eq_true (List.all_eq_true.1 z7t g k1)
  exact ⟨g,by rw [y9h (by omega),hn,k2],k1,by rw [z3r g (by omega)]; exact k3,by rw [y9h (by omega)]; exact k4⟩
def rqC (r:zu):Prop:=momP r.At=true∧tokB r.Method=true∧uz r.Host=some true∧pthB r.Path=true∧qryB r.Query=true∧fldB r.From=true∧hdsE r.Headers=0∧r.Body.length≤20000
theorem y5q {r:zu} (hr:rqP r) (h:vo r=some 0):rqC r:=by
 obtain ⟨p1,p2,p3,p4,p5,p6⟩:=hr
 obtain ⟨b,q,c1,c2,c3⟩:=y0q p2
 have hh:=(z00 r.Headers p6).1
 unfold vo uj at h
 rw [z0u,Qd _ (by omega),c1,z5y _ (by omega),z5w _ (by omega),z3s _ (by omega),hh] at h
 simp only [Option.bind_some] at h
 unfold rqC
 rw [c1]
 cases e1:momP r.At
 ·rw [e1] at h; simp at h
 cases e2:tokB r.Method
 ·rw [e1,e2] at h; simp at h
 cases b
 ·rw [e1,e2] at h; simp at h
 cases e3:pthB r.Path
 ·rw [e1,e2,e3] at h; simp at h
 cases e4:qryB r.Query
 ·rw [e1,e2,e3,e4] at h; simp at h
 cases e5:fldB r.From
 ·rw [e1,e2,e3,e4,e5] at h; simp at h
 rw [e1,e2,e3,e4,e5] at h
 simp only [Bool.not_true,Bool.false_eq_true,if_false,if_true,ne_eq,not_true_eq_false,decide_false] at h
 by_cases e6:hdsE r.Headers=0
 ·rw [e6] at h
  simp only [not_true_eq_false,decide_false,Bool.false_eq_true,if_false] at h
  by_cases e7:20000 < (r.Body.length:Int)
  ·simp [e7] at h
  ·exact ⟨rfl,rfl,rfl,rfl,rfl,rfl,e6,by omega⟩
 ·simp [e6] at h
theorem w37 {r:zu} (hr:rqP r) (h:rqC r):vo r=some 0:=by
 obtain ⟨p1,p2,p3,p4,p5,p6⟩:=hr
 obtain ⟨e1,e2,e3,e4,e5,e6,e7,e8⟩:=h
 have hh:=(z00 r.Headers p6).1
 unfold vo uj
 rw [z0u,Qd _ (by omega),e3,z5y _ (by omega),z5w _ (by omega),z3s _ (by omega),hh,e1,e2,e4,e5,e6,e7]
 have e9:¬ 20000 < (r.Body.length:Int):=by omega
 simp [e9]
theorem y3l {r:zu} (hr:rqP r) (hc:vo r=some 0) {g:Bs} (hg:ua r.Host=some (g,0)) (k1:(npF r.Path).2=0) {P s:List zj} {t:Bs} (hP:kz r.Query=some (P,0)) (hPl:P.length≤1000) (hPm:∀ p,p∈P→p.Name.length≤1000∧p.Value.length≤1000)
  (hs:uk (P.filter fun p => !nilP p) (fun (a0:zj) (a1:zj)=>vf a0 a1)=some s) (hsl:s.length=(P.filter fun p => !nilP p).length) (ht:ky s=some (t,0)) :
  kb r=some (zu.mk r.At (Lib.toUpperA r.Method) g (npF r.Path).1 t r.From (r.Headers.map lwH) r.Body,0):=by
 obtain ⟨p1,p2,p3,p4,p5,p6⟩:=id hr
 obtain ⟨c1,c2,c3,c4,c5,c6,c7,c8⟩:=y5q hr hc
 have hl:=z32 c7
 have hnm:=y0v (haR c7)
 unfold kb
 rw [hc,hg,(y3c r.Path (by omega)).1,hP]
 simp only [Option.bind_some,ne_eq,not_true_eq_false,decide_false,Bool.false_eq_true,if_false,k1]
 rw [(y5j P hPl hPm).1]
 simp only [Option.bind_some]
 rw [hs]
 simp only [Option.bind_some]
 rw [if_pos hsl,ht]
 have hup:Yr r.Method=some (Lib.toUpperA r.Method):=by
  unfold Yr
  rw [if_pos ⟨by omega,Qv c2⟩]
 have hcl:ul r.Headers=some r.Headers:=by unfold ul; rw [if_pos (by omega)]
 simp only [Option.bind_some,not_true_eq_false,decide_false,Bool.false_eq_true,if_false]
 rw [hup,hcl]
 simp only [Option.bind_some]
 rw [if_pos (by omega)]
 exact lowP (ρ:=Unit) (fun (s:(List zo))=>z54 r (g,0) (npF r.Path) (t,0) (Lib.toUpperA r.Method) s) r.Headers [] hnm
structure NfB (r:zu) (x:zu) where
 g:Bs
 P:List zj
 s:List zj
 chk:vo r=some 0
 host:ua r.Host=some (g,0)
 hin:g∈vn∧uz g=some true∧ua g=some (g,0)
 path:(npF r.Path).2=0
 parse:kz r.Query=some (P,0)
 plen:P.length≤12
 pmem:∀ p,p∈P→p.Name.length≤1000∧p.Value.length≤1000
 sort:uk (P.filter fun p => !nilP p) (fun (a0:zj) (a1:zj)=>vf a0 a1)=some s
 perm:s.Perm (P.filter fun p => !nilP p)
 stay:uk s (fun (a0:zj) (a1:zj)=>vf a0 a1)=some s
 text:ky s=some (Lib.join (s.map wpQ) [38],0)
 tlen:(Lib.join (s.map wpQ) [38]).length≤1000
 is:x=zu.mk r.At (Lib.toUpperA r.Method) g (npF r.Path).1 (Lib.join (s.map wpQ) [38]) r.From (r.Headers.map lwH) r.Body
theorem x84 {r:zu} (hr:rqP r) (hq:qOK r.Query):∃ x,kb r=some x∧(x.2=0→Nonempty (NfB r x.1)):=by
 obtain ⟨x,x1,_,_⟩:=x86 r hr hq
 refine ⟨x,x1,fun h0 => ?_⟩
 obtain ⟨e,e1,e2,e3⟩:=y26 r hr
 obtain ⟨p1,p2,p3,p4,p5,p6⟩:=id hr
 have hx:=x1
 unfold kb at hx
 rw [e1] at hx
 simp only [Option.bind_some] at hx
 by_cases hz:e=0
 ·subst hz
  have hC:=y5q hr e1
  obtain ⟨g,g1,g2,g3,g4⟩:=w2b p2 hC.2.2.1
  obtain ⟨c,c1,c2,c3,c4⟩:=y8z r.Query (by omega)
  rw [if_neg (by decide),g1,(y3c r.Path (by omega)).1,c1] at hx
  simp only [Option.bind_some] at hx
  by_cases k1:(npF r.Path).2=0
  ·rw [if_neg (by simpa using k1)] at hx
   by_cases k2:c.2=0
   ·rw [if_neg (by simpa using k2)] at hx
    obtain ⟨c5,c6,c7⟩:=c4 k2
    have hmem:=y80 c7
    rw [← c5] at hmem
    have hfew:c.1.length≤12:=by rw [c5]; exact y81 hq (by rw [← c5]; exact c6)
    have hfl:=List.length_filter_le (fun p => !nilP p) c.1
    rw [(y5j c.1 (by omega) hmem).1] at hx
    simp only [Option.bind_some] at hx
    obtain ⟨s,s1,s2,s3⟩:=x6z (c.1.filter fun p => !nilP p) (by omega)
    rw [s2] at hx
    simp only [Option.bind_some] at hx
    rw [if_pos s1.length_eq] at hx
    have hsm:∀ p,p∈s→(p.Name.length≤1000∧p.Value.length≤1000)∧nilP p=false:=fun p hp=>by
     have:=List.mem_filter.1 (s1.mem_iff.1 hp)
     exact ⟨hmem p this.1,by simpa using this.2⟩
    have hsl:s.length≤12:=by rw [s1.length_eq]; omega
    obtain ⟨t,t1,t2⟩:=y69 s (by omega) fun p hp=>(hsm p hp).1
    rw [t1] at hx
    simp only [Option.bind_some] at hx
    by_cases k3:t.2=0
    ·have ht:ky s=some (t.1,0):=by rw [t1,← k3]
     obtain ⟨t3,t4⟩:=x8a (by omega) hsm ht
     have hcp:kz r.Query=some (c.1,0):=by rw [c1,← k2]
     have hcalc:=y3l hr e1 g1 k1 hcp (by omega) hmem s2 s1.length_eq ht
     have hxx:=Option.some.inj (x1.symm.trans hcalc)
     refine ⟨⟨g,c.1,s,e1,g1,⟨g2,g3,g4⟩,k1,hcp,hfew,hmem,s2,s1,s3,by rw [← t3]; exact ht,by rw [← t3]; exact t4,?_⟩⟩
     rw [hxx,t3]
    ·rw [if_pos (by simpa using k3)] at hx
     have:=Option.some.inj hx
     rw [← this] at h0
     exact absurd h0 k3
   ·rw [if_pos (by simpa using k2)] at hx
    have:=Option.some.inj hx
    rw [← this] at h0
    exact absurd h0 k2
  ·rw [if_pos (by simpa using k1)] at hx
   have:=Option.some.inj hx
   rw [← this] at h0
   exact absurd h0 k1
 ·rw [if_pos (by simpa using hz)] at hx
  have:=Option.some.inj hx
  rw [← this] at h0
  exact absurd h0 hz
theorem x85 {r x:zu} (h:NfB r x) (hr:rqP r) (at_:Int) (hc:vo (zu.mk at_ r.Method r.Host r.Path r.Query r.From r.Headers r.Body)=some 0) :
  kb (zu.mk at_ r.Method r.Host r.Path r.Query r.From r.Headers r.Body)=some (zu.mk at_ x.Method x.Host x.Path x.Query x.From x.Headers x.Body,0):=by
 have:=y3l (r:=zu.mk at_ r.Method r.Host r.Path r.Query r.From r.Headers r.Body) hr hc h.host h.path h.parse (by have:=h.plen; omega) h.pmem h.sort h.perm.length_eq h.text
 have a1:x.Method=Lib.toUpperA r.Method:=congrArg zu.Method h.is
 have a2:x.Host=h.g:=congrArg zu.Host h.is
 have a3:x.Path=(npF r.Path).1:=congrArg zu.Path h.is
 have a4:x.Query=Lib.join (h.s.map wpQ) [38]:=congrArg zu.Query h.is
 have a5:x.From=r.From:=(congrArg zu.From h.is).trans rfl
 have a6:x.Headers=r.Headers.map lwH:=congrArg zu.Headers h.is
 have a7:x.Body=r.Body:=(congrArg zu.Body h.is).trans rfl
 rw [this,a1,a2,a3,a4,a5,a6,a7]
theorem y9i {r x:zu} (h:NfB r x) (hr:rqP r):rqP x∧rqC x∧qOK x.Query∧haP 100 x.Headers:=by
 obtain ⟨c1,c2,c3,c4,c5,c6,c7,c8⟩:=y5q hr h.chk
 obtain ⟨p1,p2,p3,p4,p5,p6⟩:=hr
 have hpi:=y84 (s:=r.Path) (p:=(npF r.Path).1) (by rw [← h.path])
 have hsl:h.s.length≤12:=by rw [h.perm.length_eq]; have:=List.length_filter_le (fun p => !nilP p) h.P; have:=h.plen; omega
 have hh:=w2l c7
 have hup:(Lib.toUpperA r.Method).length≤100000:=by unfold Lib.toUpperA; rw [List.length_map]; exact p1
 have e:=h.is
 have key:∀ y:zu,y=zu.mk r.At (Lib.toUpperA r.Method) h.g (npF r.Path).1 (Lib.join (h.s.map wpQ) [38]) r.From (r.Headers.map lwH) r.Body→rqP y∧rqC y∧qOK y.Query∧haP 100 y.Headers:=by
  intro y hy
  subst hy
  refine ⟨⟨hup,h.hin.1,by have:=hpi.2.2; simp only; omega,by have:=h.tlen; simp only; omega,p5,y0w (haR hh) (by omega)⟩,⟨c1,x5b c2,h.hin.2.1,hpi.1,y68 h.s h.tlen,c6,hh,c8⟩,x5f h.s hsl,haR hh⟩
 exact key x e
theorem x89 {r x:zu} (h:NfB r x) (hr:rqP r):vo x=some 0∧kb x=some (x,0):=by
 obtain ⟨q1,q2,q3,q4⟩:=y9i h hr
 have hc:=w37 q1 q2
 refine ⟨hc,?_⟩
 have hpi:=y84 (s:=r.Path) (p:=(npF r.Path).1) (by rw [← h.path])
 have hsl:h.s.length≤12:=by rw [h.perm.length_eq]; have:=List.length_filter_le (fun p => !nilP p) h.P; have:=h.plen; omega
 have hmem:∀ p,p∈h.s→(p.Name.length≤1000∧p.Value.length≤1000)∧nilP p=false:=fun p hp=>by
  have:=List.mem_filter.1 (h.perm.mem_iff.1 hp)
  exact ⟨h.pmem p this.1,by simpa using this.2⟩
 have hfil:(h.s.filter fun p => !nilP p)=h.s:=List.filter_eq_self.2 fun p hp=>by rw [(hmem p hp).2]; rfl
 have e:=h.is
 have hx1:x.Host=h.g:=congrArg zu.Host e
 have hx2:x.Path=(npF r.Path).1:=congrArg zu.Path e
 have hx3:x.Query=Lib.join (h.s.map wpQ) [38]:=congrArg zu.Query e
 have hx4:Lib.toUpperA x.Method=x.Method:=by
  have a:x.Method=Lib.toUpperA r.Method:=congrArg zu.Method e
  rw [a]; exact x38 _
 have hx5:x.Headers.map lwH=x.Headers:=by
  have a:x.Headers=r.Headers.map lwH:=congrArg zu.Headers e
  rw [a]; exact x9g _
 have hpx:npF x.Path=(x.Path,0):=by rw [hx2]; exact hpi.2.1
 have:=y3l q1 hc (g:=x.Host) (by rw [hx1]; exact h.hin.2.2) (by rw [hpx]) (P:=h.s) (s:=h.s) (t:=x.Query) (by rw [hx3]; exact x8s h.s (by omega) h.tlen) (by omega) (fun p hp=>(hmem p hp).1) (by rw [hfil]; exact h.stay) (by rw [hfil]) (by rw [hx3]; exact h.text)
 rw [this,hpx,hx4,hx5]
theorem w3h:z0e=some true:=by
 have hk:=x93
 unfold y37 at hk
 have hs:=x6w
 unfold y36 at hs
 obtain ⟨a,a1,a2⟩:=bnd hk
 obtain ⟨b,b1,b2⟩:=bnd hs
 simp only [Option.some.injEq,Bool.and_eq_true,decide_eq_true_eq] at a2 b2
 have h3:z92 [vj.mk [97] 1] 2=some ([[97],[97]],0):=by decide +kernel
 have h4:z6b [97,98]=some [89,87,73]:=by
  unfold z6b
  exact xd.2 ⟨3,by decide +kernel⟩
 unfold z0e xe
 rw [a1,b1,h3,h4]
 simp [a2.1,a2.2,b2.1,b2.2]
theorem x7y {k:Int} {s:zn} (h:SB k s) (hk:k≤800):Ok (z6u s) fun r=>enP r.1:=by
 unfold z6u
 refine ok_g (by decide) ?_
 refine z5z (fun j (q:List Int×Int)=>j≤6∧SB (k+620 * (j:Int)) (zn.mk q.1 q.2)) 6 0 _ ⟨by omega,h.mono (by omega)⟩ ?_ ?_
 ·rintro j ⟨a,b⟩ _ hj ⟨h0,h1⟩
  simp only at h1 ⊢
  unfold y1b
  refine ya (w3k h1 (by omega)) fun r hr => ?_
  obtain ⟨f,f1,f2,f3⟩:=x1t r.1 hr.1
  rw [f2]
  simp only [Option.bind_some]
  exact qm (fun _=>yl hr.1) (fun _=>yl ⟨by omega,hr.2.mono (by omega)⟩)
 ·rintro ⟨a,b⟩ ⟨h0,h1⟩
  unfold y1c
  refine yl ?_
  refine ⟨⟨⟨⟨by simp,by simp [vn],by simp,by simp,by simp,by simp [hdsP]⟩,z33 100⟩,.inl (by show (spl 38 []).length≤12; decide)⟩,z33 100,by simp,by simp⟩
theorem x5q {a b:zu} (ha:hnP a.Headers) (V:List Bs×Bool×Int) (e1:a.Host=b.Host) (e2:a.Path=b.Path) (e3:a.Query=b.Query) (e4:a.Method=b.Method) (e5:a.Headers=b.Headers):suB V a b = !V.2.1:=by
 unfold suB
 rw [e1,e2,e3,e4,e5]
 simp
theorem x48 (L:List Int):z95 L=some true:=by
 refine y9f ?_
 unfold z95
 rw [w3h]
 refine ya (x2m (k:=0) ⟨by simp,by simp⟩ (by omega) 0) fun r2 h2 => ?_
 have hr:rqP r2.1:=h2.1.1.1
 obtain ⟨x,x1,x2⟩:=x84 hr h2.1.2
 rw [x1]
 simp only [Option.bind_some]
 refine qm (fun _=>yl rfl) (fun hx => ?_)
 have hx0:x.2=0:=by simpa using hx
 obtain ⟨nf⟩:=x2 hx0
 refine ya (x7y h2.2 (by omega)) fun r9 h9 => ?_
 have hen:enP (qo.mk (zu.mk 0 r2.1.Method r2.1.Host r2.1.Path r2.1.Query r2.1.From r2.1.Headers r2.1.Body) r9.1.Response r9.1.At r9.1.Tags r9.1.Used):=⟨⟨h2.1.1,h2.1.2⟩,h9.2.1,h9.2.2.1,h9.2.2.2⟩
 obtain ⟨f,f1,f2,f3⟩:=x1t _ hen
 rw [f1]
 simp only [Option.bind_some]
 refine qm (fun _=>yl rfl) (fun hf => ?_)
 have hf0:f=0:=by simpa using hf
 obtain ⟨k1,k2,k3,k4⟩:=f3 hf0
 rw [hf0] at f1
 have hchk:vo r2.1=some 0:=nf.chk
 obtain ⟨i1,i2⟩:=x89 nf hr
 have hN0:=x85 nf hr 0 k1
 have hR:=y9i nf hr
 have hnP:hnP x.1.Headers:=⟨by have:=hR.2.2.2.1; omega,y0v hR.2.2.2⟩
 have hv:=y6l r9.1.Response k2 (y0v h9.2.1)
 have hvl:=x3u (P:=ptsB (qn vyN r9.1.Response.Headers))
 have hvm:=fun n=>x3t (P:=ptsB (qn vyN r9.1.Response.Headers)) (n:=n)
 generalize hV:vyL (ptsB (qn vyN r9.1.Response.Headers))=V at *
 have hx10:kb r2.1=some (x.1,0):=by rw [x1,← hx0]
 have hsu:∀ b:zu,b=x.1→z3j (zu.mk 0 x.1.Method x.1.Host x.1.Path x.1.Query x.1.From x.1.Headers x.1.Body) r9.1.Response b=some (!V.2.1):=by
  intro b hb
  subst hb
  rw [(x5r (a:=zu.mk 0 x.1.Method x.1.Host x.1.Path x.1.Query x.1.From x.1.Headers x.1.Body) hnP hnP r9.1.Response V hv.1 k4 ⟨hvl,fun n hn=>hvm n hn⟩).1,x5q (a:=zu.mk 0 x.1.Method x.1.Host x.1.Path x.1.Query x.1.From x.1.Headers x.1.Body) (b:=x.1) hnP V rfl rfl rfl rfl rfl]
 have hS:∀ b:zu,vo b=some 0→kb b=some (x.1,0)→z3l (qo.mk (zu.mk 0 r2.1.Method r2.1.Host r2.1.Path r2.1.Query r2.1.From r2.1.Headers r2.1.Body) r9.1.Response r9.1.At r9.1.Tags r9.1.Used) b=some (!V.2.1,0):=by
  intro b b1 b2
  have hp:z63 (qo.mk (zu.mk 0 r2.1.Method r2.1.Host r2.1.Path r2.1.Query r2.1.From r2.1.Headers r2.1.Body) r9.1.Response r9.1.At r9.1.Tags r9.1.Used) b=some 0:=by
   unfold z63
   rw [f1,b1]; rfl
  have hn:z65 (zu.mk 0 r2.1.Method r2.1.Host r2.1.Path r2.1.Query r2.1.From r2.1.Headers r2.1.Body) b=some (zu.mk 0 x.1.Method x.1.Host x.1.Path x.1.Query x.1.From x.1.Headers x.1.Body,x.1,0):=by
   unfold z65 z4x
   rw [hN0]
   simp only [Option.bind_some]
   rw [if_pos (by decide),b2]; rfl
  unfold z3l
  rw [hp]
  simp only [Option.bind_some]
  rw [if_neg (by decide),hn]
  simp only [Option.bind_some]
  rw [if_neg (by simp),hsu x.1 rfl]; rfl
 have hVa:z67 r9.1.Response=some V:=by
  obtain ⟨e,e1,e2,e3⟩:=y8v r9.1.Response (y0w h9.2.1 (by omega))
  have he:e=0:=by
   have hC:=f1
   unfold z0m at hC
   rw [k1,e1] at hC
   simp only [Option.bind_some] at hC
   rw [if_neg (by decide)] at hC
   by_cases he:e=0
   ·exact he
   ·rw [if_pos (by simpa using he)] at hC
    exact Option.some.inj hC
  unfold z67
  rw [e1,he]
  simp only [Option.bind_some]
  rw [if_neg (by decide),hv.1]; rfl
 rw [hS r2.1 hchk hx10,hS (zu.mk x.1.At x.1.Method x.1.Host x.1.Path x.1.Query x.1.From x.1.Headers x.1.Body) i1 i2,hVa]
 simp only [Option.bind_some]
 rw [if_pos (by decide),if_pos (by decide),if_pos (by simpa using k4),if_pos (by simp),if_pos (by simp)]
 exact yl rfl
end Go.Proofs.YtbndlmnjeofkdaaGreatDoor
