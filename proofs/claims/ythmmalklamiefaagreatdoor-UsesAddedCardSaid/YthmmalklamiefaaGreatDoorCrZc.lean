/- Plain: prices of plans, and the catalogs that the stream gives. -/
import Derived.Test.YthmmalklamiefaaGreatDoorCpZc
namespace Go.Proofs.YthmmalklamiefaaGreatDoor
set_option linter.unusedVariables false
set_option maxRecDepth 20000
def TC:List z02→Prop
 | []=>True
 | t::l=>((1≤t.From∧t.From≤1000000000000)∧0≤t.Cents∧t.Cents≤1000000)∧(∀ u,l[0]?=some u→t.From < u.From)∧TC l
theorem y56 {n lo hi:Int} (h:outP n lo hi=false):lo≤n∧n≤hi:=by
 unfold outP at h
 simp at h
 omega
theorem w0y {l:List z02} {k:Nat} {x:z02} (h:t1 l k x=0):((1≤x.From∧x.From≤1000000000000)∧0≤x.Cents∧x.Cents≤1000000)∧x2g l k x=false:=by
 unfold t1 at h
 rcases Bool.eq_false_or_eq_true (outP x.From 1 1000000000000) with h1 | h1 <;> rcases Bool.eq_false_or_eq_true (outP x.Cents 0 1000000) with h2 | h2 <;> rcases Bool.eq_false_or_eq_true (x2g l k x) with h3 | h3 <;> simp [h1,h2,h3] at h
 exact ⟨⟨y56 h1,y56 h2⟩,h3⟩
theorem x75 {l:List z02} (h:tsF l=0):l.length≤20∧∀ k x,l[k]?=some x→t1 l k x=0:=by
 unfold tsF at h
 by_cases h1:20 < l.length
 ·rw [if_pos h1] at h; omega
 ·rw [if_neg h1] at h
  by_cases h2:feI (t1 l) 0 l≠0
  ·rw [if_pos h2] at h; exact absurd h h2
  ·refine ⟨by omega,fun k x hx => ?_⟩
   have:=x1i l 0 (by simpa using h2) k x hx
   simpa using this
theorem w75 {xs:List z02} (h:∀ k x,xs[k]?=some x→t1 xs k x=0):∀ (l:List z02) (k:Nat),(∀ j,l[j]?=xs[k+j]?)→TC l
 | [],_,_=>trivial
 | t::l,k,hl=>by
  have h0:xs[k]?=some t:=by have:=hl 0; simpa using this.symm
  refine ⟨(w0y (h k t h0)).1,fun u hu => ?_,w75 h l (k+1) fun j => ?_⟩
  ·have h1:xs[k+1]?=some u:=by have:=hl 1; rw [← this]; simpa using hu
   have h2:=(w0y (h (k+1) u h1)).2
   simp [x2g,h0] at h2
   exact h2
  ·have:=hl (j+1)
   rw [List.getElem?_cons_succ] at this
   rw [this]; congr 1; omega
theorem w5i {l:List z02} (h:tsF l=0):TC l∧l.length≤20:=⟨w75 (x75 h).2 l 0 fun j=>by simp,(x75 h).1⟩
def endT (l:List z02) (a:Int):Int:=match l[0]? with | some u=>min a (u.From - 1) | none=>a
def prS:List z02→Int→Int
 | [],_=>0
 | t::l,a=>max 0 (endT l a - t.From+1) * t.Cents+prS l a
theorem w6y {p c:Int} (hp:0≤p) (hc:0≤c∧c≤1000000):0≤p * c∧p * c≤p * 1000000:=⟨Int.mul_nonneg hp hc.1,Int.mul_le_mul_of_nonneg_left hc.2 hp⟩
theorem w2p (l:List z02) (a:Int):endT l a≤a:=by
 unfold endT
 split <;> omega
theorem x2l (t:z02) (l:List z02) (a:Int):endT (t::l) a=min a (t.From - 1):=rfl
theorem w2n {t:z02} {l:List z02} (h:∀ u,l[0]?=some u→t.From < u.From) (a:Int):endT (t::l) a≤endT l a∧(endT l a < t.From→endT l a=a):=by
 rw [x2l]
 unfold endT
 cases hq:l[0]? with
 | none=>exact ⟨by simp only; omega,fun _=>rfl⟩
 | some u=>have:=h u hq; exact ⟨by simp only; omega,fun h2=>by simp only at h2 ⊢; omega⟩
theorem w6v:∀ (l:List z02) (a:Int),TC l→0≤prS l a∧prS l a≤(a - endT l a) * 1000000
 | [],a,_=>by simp [prS,endT]
 | t::l,a,h=>by
  obtain ⟨h1,h2,h3⟩:=h
  obtain ⟨q1,q2⟩:=w6v l a h3
  obtain ⟨e1,e2⟩:=w2n h2 a
  have e3:=w2p l a
  rw [x2l] at *
  have hm:=w6y (p:=max 0 (endT l a - t.From+1)) (by omega) h1.2
  show 0≤max 0 (endT l a - t.From+1) * t.Cents+prS l a∧max 0 (endT l a - t.From+1) * t.Cents+prS l a≤_
  generalize max 0 (endT l a - t.From+1) * t.Cents=z at hm ⊢
  omega
theorem w2o:∀ (l:List z02) (a:Int),TC l→0≤a→0≤endT l a
 | [],a,_,h=>h
 | t::l,a,h,ha=>by rw [x2l]; have:=h.1.1; omega
theorem w6u (l:List z02) (a:Int) (h:TC l) (ha:0≤a∧a≤1000000000000):0≤prS l a∧prS l a≤1000000000000000000:=by
 have h1:=w6v l a h
 have h2:=w2o l a h ha.1
 omega
structure PG (p:z0p):Prop where
 key:keyP p.Key=true
 base:0≤p.Base∧p.Base≤1000000000000
 free:0≤p.Free∧p.Free≤1000000000000
 tc:TC p.Tiers
 len:p.Tiers.length≤20
theorem w8i {c:z0i} {p:z0p} (h:gL c p false=0):PG p:=by
 unfold gL at h
 cases hk:keyP p.Key
 ·rw [hk] at h; simp at h
 ·rw [hk] at h
  simp only [Bool.true_eq_false,if_false,Bool.false_eq_true] at h
  unfold plF at h
  rcases Bool.eq_false_or_eq_true (hasP c p.Product) with h1 | h1
  ·rcases Bool.eq_false_or_eq_true (outP p.Base 0 1000000000000) with h2 | h2
   ·simp [h1,h2] at h
   ·rcases Bool.eq_false_or_eq_true (outP p.Free 0 1000000000000) with h3 | h3
    ·simp [h1,h2,h3] at h
    ·by_cases h4:tsF p.Tiers=0
     ·exact ⟨hk,y56 h2,y56 h3,(w5i h4).1,(w5i h4).2⟩
     ·simp [h1,h2,h3,h4] at h
  ·simp [h1] at h
theorem y5n {c:z0i} (h:catF c=0):(x0r z0r.Key c.Products∧x0r z0p.Key c.Plans)∧∀ p,p∈c.Plans→PG p:=by
 unfold catF at h
 by_cases h1:pdF c.Products≠0
 ·rw [if_pos h1] at h; exact absurd h h1
 ·rw [if_neg h1] at h
  by_cases h2:100 < c.Plans.length
  ·rw [if_pos h2] at h; omega
  ·rw [if_neg h2] at h
   obtain ⟨⟨h3,h4⟩,_⟩:=x1j (w69 c) c.Plans [] h
   exact ⟨⟨x8k (by simpa using h1),h3⟩,fun p hp=>w8i (h4 p hp)⟩
def w1n (p:z0p) (calls:Int):Int:=prS p.Tiers (max 0 (calls - p.Free)) / 1000
section
variable {p:z0p} (hg:PG p) {calls:Int} (hc:0≤calls∧calls≤1000000000000)
include hg hc
theorem x9d:max 0 (wr (calls - p.Free))=max 0 (calls - p.Free)∧(0≤max 0 (calls - p.Free)∧max 0 (calls - p.Free)≤1000000000000):=by
 have:=hg.free
 rw [z6j (by omega)]
 exact ⟨rfl,by omega⟩
theorem x2b:∀ (l:List z02) (k:Nat) (sum:Int),(∀ j,l[j]?=p.Tiers[k+j]?)→TC l→0≤sum→sum+prS l (max 0 (calls - p.Free))≤1000000000000000000→forL (fun (k:Nat) (x:z02) (s:Int)=>y0p p calls k x s) (fun (s:Int)=>y1r s) k l sum=some ((sum+prS l (max 0 (calls - p.Free))) / 1000)
 | [],k,sum,hl,ht,h0,h1=>by
  simp only [prS] at h1 ⊢
  show y1r sum=_
  unfold y1r
  rw [if_pos (by omega)]
  simp
 | x::l,k,sum,hl,ht,h0,h1=>by
  obtain ⟨a1,a2⟩:=x9d hg hc
  obtain ⟨t1,t2,t3⟩:=ht
  have hk:=hg.len
  have e0:y0p p calls k x sum=some (.inl (sum+max 0 (endT l (max 0 (calls - p.Free)) - x.From+1) * x.Cents)):=by
   have hJ:∀ tt,tt=endT l (max 0 (calls - p.Free))→y0q sum x tt=some (.inl (sum+max 0 (endT l (max 0 (calls - p.Free)) - x.From+1) * x.Cents)):=by
    intro tt hto
    subst hto
    unfold y0q
    have b1:=w2p l (max 0 (calls - p.Free))
    have b2:=w2o l (max 0 (calls - p.Free)) t3 a2.1
    have b3:=w6v l (max 0 (calls - p.Free)) t3
    simp only [prS] at h1
    have hm:=w6y (p:=max 0 (endT l (max 0 (calls - p.Free)) - x.From+1)) (by omega) t1.2
    rw [z6j (n:=endT l (max 0 (calls - p.Free)) - x.From) (by omega),z6j (n:=endT l (max 0 (calls - p.Free)) - x.From+1) (by omega)]
    generalize max 0 (endT l (max 0 (calls - p.Free)) - x.From+1) * x.Cents=z at hm h1 ⊢
    rw [z6j (n:=z) (by omega),z6j (by omega)]
   unfold y0p
   rw [a1]
   have hn:l[0]?=p.Tiers[k+1]?:=by have:=hl 1; simpa using this
   by_cases hq:k+1 < p.Tiers.length
   ·rw [if_pos (by simp; omega)]
    obtain ⟨u,hu⟩:∃ u,p.Tiers[k+1]?=some u:=⟨_,List.getElem?_eq_getElem hq⟩
    rw [hu]
    refine hJ _ ?_
    rw [hu] at hn
    have hu':1≤u.From∧u.From≤1000000000000:=by
     cases l with
     | nil=>simp at hn
     | cons y l=>simp at hn; subst hn; exact t3.1.1
    rw [z6j (by omega)]
    unfold endT
    rw [hn]
   ·rw [if_neg (by simp; omega)]
    refine hJ _ ?_
    have:p.Tiers[k+1]?=none:=List.getElem?_eq_none (by omega)
    rw [this] at hn
    unfold endT
    rw [hn]
  show (y0p p calls k x sum).bind _=_
  rw [e0]
  have hm:=w6y (p:=max 0 (endT l (max 0 (calls - p.Free)) - x.From+1)) (by omega) t1.2
  simp only [Option.bind_some,after]
  have e9:sum+prS (x::l) (max 0 (calls - p.Free))=sum+max 0 (endT l (max 0 (calls - p.Free)) - x.From+1) * x.Cents+prS l (max 0 (calls - p.Free)):=by simp only [prS]; omega
  rw [e9] at h1 ⊢
  refine x2b l (k+1) _ (fun j => ?_) t3 (by omega) h1
  have:=hl (j+1)
  rw [List.getElem?_cons_succ] at this
  rw [this]; congr 1; omega
theorem w1m:y3x p calls=some (w1n p calls):=by
 unfold y3x
 have hk:=hg.len
 have h1:=w6u _ _ hg.tc (x9d hg hc).2
 rw [if_pos (by omega),x2b hg hc p.Tiers 0 0 (fun j=>by simp) hg.tc (by omega) (by omega)]
 simp [w1n]
end
def hasL (c:z0i) (key:Bs):Bool:=c.Plans.any fun x=>decide (x.Key=key)
def ixL (c:z0i) (key:Bs):Int:=fdx (fun x:z0p=>decide (x.Key=key)) 0 c.Plans
def w9e:z0p:=z0p.mk [] [] 0 0 [] 0 0 false
theorem y7c (c:z0i) (key:Bs) (hl:c.Plans.length≤100000) (hr:x0r z0p.Key c.Plans):(hasL c key=false∧ixL c key < 0∧z7z c key=some (w9e,false))∨(hasL c key=true∧0≤ixL c key∧∃ x,at? c.Plans (ixL c key)=some x∧x∈c.Plans∧x.Key=key∧z7z c key=some (x,true)):=by
 obtain ⟨r,h1,h2,h3⟩:=x7n z0p.Key c.Plans key (p:=fun (a0:z0p) (a1:Bs)=>y0k a0 a1) (by omega) (fun x _=>rfl) hr
 have h1':z2v c.Plans key (fun (a0:z0p) (a1:Bs)=>y0k a0 a1)=some r:=h1
 unfold z7z
 rw [h1']
 simp only [Option.bind_some]
 have hn:decide (ixL c key < 0) = !hasL c key:=y64 (fun x:z0p=>decide (x.Key=key)) c.Plans
 cases hq:hasL c key
 ·left
  have hq':(c.Plans.any fun x=>decide (x.Key=key))=false:=hq
  rw [hq'] at h2
  rw [hq] at hn
  rw [h2]
  exact ⟨rfl,by simpa using hn,rfl⟩
 ·right
  have hq':(c.Plans.any fun x=>decide (x.Key=key))=true:=hq
  obtain ⟨h4,x,h5,h6,h7⟩:=w2j _ _ hq'
  rw [hq'] at h2
  have e1:=h3 h2
  rw [h2,e1,h5]
  exact ⟨rfl,h4,x,h5,List.mem_of_getElem? h6,by simpa using h7,rfl⟩
theorem w4h (c:z0i) (hb:CB c) (key:Bs) (calls:Int):y3y c key calls=some (if catF c≠0 then (0,catF c) else match at? c.Plans (ixL c key) with | none=>(0,8) | some x=>if outP calls 0 1000000000000=true then (0,1) else (w1n x calls,0)):=by
 unfold y3y
 rw [x2n c hb]
 simp only [Option.bind_some]
 by_cases h1:catF c=0
 ·obtain ⟨⟨hp,hl⟩,hg⟩:=y5n h1
  rw [if_neg (by simpa using h1),if_neg (by simpa using h1)]
  rcases y7c c key hb.nl hl with ⟨h2,h3,h4⟩ | ⟨h2,h3,x,h5,h6,_,h4⟩
  ·rw [h4]
   have:at? c.Plans (ixL c key)=none:=by unfold at?; rw [if_neg (by omega)]
   rw [this]
   rfl
  ·rw [h4,h5]
   simp only [Option.bind_some,x5x,Bool.not_true,Bool.false_eq_true,if_false]
   by_cases h7:outP calls 0 1000000000000=true
   ·rw [if_pos h7,if_pos h7]
   ·rw [if_neg h7,if_neg h7,w1m (hg x h6) (y56 (by simpa using h7))]
    rfl
 ·rw [if_pos (by simpa using h1),if_pos h1]
theorem w1l:y11=some true:=by
 unfold y11
 rw [w4h _ ⟨by decide,by simp [Sh],by decide,by simp⟩]
 decide +kernel
theorem w6n {α:Type} {l:List α} {i:Nat} {y x:α} (h:x∈l.set i y):x∈l∨x=y:=List.mem_or_eq_of_mem_set h
structure CS (c:z0i):Prop where
 np:c.Products.length≤10
 kp:∀ x,x∈c.Products→x.Key.length≤100∧Sh x.Scopes
 nl:c.Plans.length≤10
 kl:∀ x,x∈c.Plans→x.Key.length≤100∧x.Tiers.length≤10
theorem CS.cb {c:z0i} (h:CS c):CB c:=⟨by have:=h.np; omega,fun x hx=>by have:=h.kp x hx; exact ⟨by omega,this.2⟩,by have:=h.nl; omega,fun x hx=>by have:=h.kl x hx; omega⟩
theorem x69 {k:Int} {s:z0d} (h:SB k s) (hk:k≤100000):Ok (z3d s) fun r=>(r.1.Products.length=2∧(∀ x,x∈r.1.Products→x.Key.length≤100∧Sh x.Scopes)∧r.1.Plans.length≤4∧∀ x,x∈r.1.Plans→x.Key.length≤100∧x.Tiers.length≤3)∧SB (k+100) r.2:=by
 unfold z3d
 refine z1c (x3d h (by omega)) fun r2 h2=>ok_g (by decide) ?_
 refine x0e (fun (j:Nat) (q:(List z0p)×(List Int)×Int)=>SB (k+5+20 * (j:Int)) ⟨q.2.1,q.2.2⟩∧q.1.length≤j∧∀ x,x∈q.1→x.Key.length≤100∧x.Tiers.length≤3) _ 0 _ ⟨by simpa using h2.2,by simp,by simp⟩ ?_ ?_
 ·rintro j x ⟨l,c,d⟩ _ hx ⟨q1,q2,q3⟩
  simp only at q1 q2 q3
  have hj:j < 4:=by have:=z9l hx; simp at this; omega
  have hx:x.length≤100:=by
   have h1:=List.mem_of_getElem? hx
   simp only [List.mem_cons,List.not_mem_nil,or_false] at h1
   rcases h1 with h1 | h1 | h1 | h1 <;> rw [h1] <;> decide
  unfold z3y z10
  refine z1c (y4y q1 (by omega) _ (by omega)) fun r13 h13=>y0s (fun _ => ?_) (fun _ => ?_)
  ·exact z13 ⟨h13.mono (by omega),by simp only; omega,q3⟩
  ·refine z1c (y2x h13 (by omega) _ ⟨by simp,by simp⟩) fun r16 h16=>z1c (y4c h16.2 (by omega) _ ⟨by simp,by simp⟩) fun r18 h18=>z1c (y4c h18.2 (by omega) _ ⟨by simp,by simp⟩) fun r20 h20=>z1c (y4c h20.2 (by omega) _ ⟨by simp,by simp⟩) fun r22 h22=>z1c (y4c h22.2 (by omega) _ ⟨by simp,by simp⟩) fun r24 h24=>z1c (y4y h24.2 (by omega) _ (by omega)) fun r26 h26=>z1c (y4c h26 (by omega) _ ⟨by simp,by simp⟩) fun r28 h28 => ?_
   have h3:0≤r28.1∧r28.1≤3:=by
    have h1:=h28.1
    simp only [List.mem_cons,List.not_mem_nil,or_false] at h1
    omega
   refine ok_g (by omega) ?_
   refine x3g (fun (i:Nat) (q:Int×(List z02)×(List Int)×Int)=>SB (k+5+20 * (j:Int)+8+2 * (i:Int)) ⟨q.2.2.1,q.2.2.2⟩∧q.2.1.length≤i) _ 0 _ ⟨h28.2.mono (by simp; omega),by simp⟩ ?_ ?_
   ·rintro i ⟨v,t,c,d⟩ _ hi ⟨p1,p2⟩
    simp only at p1 p2
    unfold z3x
    refine z1c (y4c p1 (by omega) _ ⟨by simp,by simp⟩) fun r39 h39=>ok_g (by simp only; omega) (z1c (y4c h39.2 (by omega) _ ⟨by simp,by simp⟩) fun r42 h42=>z13 ⟨h42.2.mono (by omega),by simp; omega⟩)
   ·rintro ⟨v,t,c,d⟩ ⟨p1,p2⟩
    simp only at p1 p2
    unfold z3z z10
    refine ok_g (by simp only; omega) (z13 ⟨p1.mono (by omega),by simp; omega,fun y hy => ?_⟩)
    rcases List.mem_append.1 hy with hy | hy
    ·exact q3 y hy
    ·simp only [List.mem_singleton] at hy
     subst hy
     exact ⟨hx,by simp only; omega⟩
 ·rintro ⟨l,c,d⟩ ⟨q1,q2,q3⟩
  simp only at q1 q2 q3
  unfold z30
  refine z13 ⟨⟨rfl,fun x hx => ?_,by simpa using q2,q3⟩,q1.mono (by simp; omega)⟩
  simp only [List.mem_cons,List.not_mem_nil,or_false] at hx
  rcases hx with hx | hx <;> subst hx
  ·exact ⟨by simp,by have:=h2.1.1; simp only; omega,fun y hy=>by have:=h2.1.2 y hy; omega⟩
  ·exact ⟨by simp,by simp,fun y hy=>by simp only [List.mem_singleton] at hy; subst hy; decide⟩
theorem w8y {k:Int} {s:z0d} (h:SB k s) (hk:k≤10000):Ok (z66 s) fun r=>CS r.1∧SB (k+200) r.2:=by
 unfold z66
 refine z1c (x69 h (by omega)) fun r2 h2 => ?_
 obtain ⟨⟨c1,c2,c3,c4⟩,hs⟩:=h2
 have hc:CS r2.1:=⟨by omega,c2,by omega,fun x hx=>by have:=c4 x hx; omega⟩
 refine y0s (fun hpos => ?_) (fun _=>z13 ⟨hc,hs.mono (by omega)⟩)
 have hpos:0 < r2.1.Plans.length:=by simpa using hpos
 refine z1c (y4y hs (by omega) _ (by omega)) fun r6 h6=>y0s (fun _ => ?_) (fun _=>z13 ⟨hc,h6.mono (by omega)⟩)
 unfold z9d
 refine z1c (y60 h6 (by omega) _ (by omega)) fun r13 h13 => ?_
 have b1:=h13.1.1
 have b2:=h13.1.2.1 (by omega)
 have hat:Ok (at? r2.1.Plans r13.1) fun x=>x∈r2.1.Plans:=by
  unfold at?
  rw [if_pos b1,List.getElem?_eq_getElem (by omega)]
  exact ⟨_,rfl,List.getElem_mem _⟩
 have hset:∀ p:z0p,p.Key.length≤100→p.Tiers.length≤10→CS (z0i.mk r2.1.Products (r2.1.Plans.set r13.1.toNat p)):=fun p hp ht=>⟨by simp only; omega,c2,by simp; omega,fun x hx=>by
  rcases w6n hx with hx | hx
  ·have:=c4 x hx; omega
  ·subst hx; exact ⟨hp,ht⟩⟩
 refine z1c hat fun x15 h15=>z1c (y60 h13.2 (by omega) _ (by omega)) fun r17 h17 => ?_
 have hx:=c4 x15 h15
 refine y0s (fun _ => ?_) (fun _=>y0s (fun _ => ?_) (fun _=>y0s (fun _ => ?_) (fun _=>y0s (fun _ => ?_) (fun _=>y0s (fun _ => ?_) (fun _ => ?_)))))
 ·refine z1c (y2x h17.2 (by omega) _ ⟨by simp,by simp⟩) fun r20 h20=>z13 ⟨hset _ ?_ (by simp only; omega),h20.2.mono (by omega)⟩
  have h1:=h20.1
  simp only [List.mem_cons,List.not_mem_nil,or_false] at h1
  simp only
  rcases h1 with h1 | h1 | h1 <;> rw [h1] <;> decide
 ·exact z1c (y2x h17.2 (by omega) _ ⟨by simp,by simp⟩) fun r20 h20=>z13 ⟨hset _ (by simp only; omega) (by simp only; omega),h20.2.mono (by omega)⟩
 ·exact z1c (y8y h17.2 (by omega) _ _ (by omega)) fun r20 h20=>z1c (y8y h20.2 (by omega) _ _ (by omega)) fun r22 h22=>z13 ⟨hset _ (by simp only; omega) (by simp only; omega),h22.2.mono (by omega)⟩
 ·exact z1c (y8y h17.2 (by omega) _ _ (by omega)) fun r20 h20=>z1c (y8y h20.2 (by omega) _ _ (by omega)) fun r22 h22=>ok_g (by omega) (z13 ⟨hset _ (by simp only; omega) (by simp; omega),h22.2.mono (by omega)⟩)
 ·exact z1c (y8y h17.2 (by omega) _ _ (by omega)) fun r20 h20=>z1c (y8y h20.2 (by omega) _ _ (by omega)) fun r22 h22=>z13 ⟨hset _ (by simp only; omega) (by simp only; omega),h22.2.mono (by omega)⟩
 ·refine z1c (y2x h17.2 (by omega) _ ⟨by simp,by simp⟩) fun r20 h20=>z1c (w1f h20.2 (by omega)) fun r22 h22=>ok_g (by omega) (z13 ⟨⟨by simp; omega,fun x hx => ?_,by simp only; omega,fun x hx=>by have:=c4 x hx; omega⟩,h22.2.mono (by omega)⟩)
  rcases List.mem_append.1 hx with hx | hx
  ·exact c2 x hx
  ·simp only [List.mem_singleton] at hx
   subst hx
   refine ⟨?_,h22.1.2⟩
   have h1:=h20.1
   simp only [List.mem_cons,List.not_mem_nil,or_false] at h1
   simp only
   rcases h1 with h1 | h1 | h1 <;> rw [h1] <;> decide
end Go.Proofs.YthmmalklamiefaaGreatDoor
