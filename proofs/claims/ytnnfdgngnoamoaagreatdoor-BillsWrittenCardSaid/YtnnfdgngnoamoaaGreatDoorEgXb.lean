/- Plain: the stream's applications and events. -/
import Derived.Test.YtnnfdgngnoamoaaGreatDoorCpXb
namespace Go.Proofs.YtnnfdgngnoamoaaGreatDoor
set_option linter.unusedVariables false
set_option maxRecDepth 20000
def TC:List yp→Prop
 | []=>True
 | t::l=>((1≤t.From∧t.From≤1000000000000)∧0≤t.Cents∧t.Cents≤1000000)∧(∀ u,l[0]?=some u→t.From < u.From)∧TC l
theorem z0p {n lo hi:Int} (h:outP n lo hi=false):lo≤n∧n≤hi:=by
 unfold outP at h
 simp at h
 omega
theorem x0w {l:List yp} {k:Nat} {x:yp} (h:t1 l k x=0):((1≤x.From∧x.From≤1000000000000)∧0≤x.Cents∧x.Cents≤1000000)∧Yi l k x=false:=by
 unfold t1 at h
 rcases Bool.eq_false_or_eq_true (outP x.From 1 1000000000000) with h1 | h1 <;> rcases Bool.eq_false_or_eq_true (outP x.Cents 0 1000000) with h2 | h2 <;> rcases Bool.eq_false_or_eq_true (Yi l k x) with h3 | h3 <;> simp [h1,h2,h3] at h
 exact ⟨⟨z0p h1,z0p h2⟩,h3⟩
theorem x0i {l:List yp} (h:tsF l=0):l.length≤20∧∀ k x,l[k]?=some x→t1 l k x=0:=by
 unfold tsF at h
 by_cases h1:20 < l.length
 ·rw [if_pos h1] at h; omega
 ·rw [if_neg h1] at h
  by_cases h2:feI (t1 l) 0 l≠0
  ·rw [if_pos h2] at h; exact absurd h h2
  ·refine ⟨by omega,fun k x hx => ?_⟩
   have:=z9s l 0 (by simpa using h2) k x hx
   simpa using this
theorem x0m {xs:List yp} (h:∀ k x,xs[k]?=some x→t1 xs k x=0):∀ (l:List yp) (k:Nat),(∀ j,l[j]?=xs[k+j]?)→TC l
 | [],_,_=>trivial
 | t::l,k,hl=>by
  have h0:xs[k]?=some t:=by have:=hl 0; simpa using this.symm
  refine ⟨(x0w (h k t h0)).1,fun u hu => ?_,x0m h l (k+1) fun j => ?_⟩
  ·have h1:xs[k+1]?=some u:=by have:=hl 1; rw [← this]; simpa using hu
   have h2:=(x0w (h (k+1) u h1)).2
   simp [Yi,h0] at h2
   exact h2
  ·have:=hl (j+1)
   rw [List.getElem?_cons_succ] at this
   rw [this]; congr 1; omega
theorem x0j {l:List yp} (h:tsF l=0):TC l∧l.length≤20:=⟨x0m (x0i h).2 l 0 fun j=>by simp,(x0i h).1⟩
def endT (l:List yp) (a:Int):Int:=match l[0]? with | some u=>min a (u.From - 1) | none=>a
def prS:List yp→Int→Int
 | [],_=>0
 | t::l,a=>max 0 (endT l a - t.From+1) * t.Cents+prS l a
theorem y18 {p c:Int} (hp:0≤p) (hc:0≤c∧c≤1000000):0≤p * c∧p * c≤p * 1000000:=⟨Int.mul_nonneg hp hc.1,Int.mul_le_mul_of_nonneg_left hc.2 hp⟩
theorem y8r (l:List yp) (a:Int):endT l a≤a:=by
 unfold endT
 split <;> omega
theorem y39 (t:yp) (l:List yp) (a:Int):endT (t::l) a=min a (t.From - 1):=rfl
theorem x4m {t:yp} {l:List yp} (h:∀ u,l[0]?=some u→t.From < u.From) (a:Int):endT (t::l) a≤endT l a∧(endT l a < t.From→endT l a=a):=by
 rw [y39]
 unfold endT
 cases hq:l[0]? with
 | none=>exact ⟨by simp only; omega,fun _=>rfl⟩
 | some u=>have:=h u hq; exact ⟨by simp only; omega,fun h2=>by simp only at h2 ⊢; omega⟩
theorem y1s:∀ (l:List yp) (a:Int),TC l→0≤prS l a∧prS l a≤(a - endT l a) * 1000000
 | [],a,_=>by simp [prS,endT]
 | t::l,a,h=>by
  obtain ⟨h1,h2,h3⟩:=h
  obtain ⟨q1,q2⟩:=y1s l a h3
  obtain ⟨e1,e2⟩:=x4m h2 a
  have e3:=y8r l a
  rw [y39] at *
  have hm:=y18 (p:=max 0 (endT l a - t.From+1)) (by omega) h1.2
  show 0≤max 0 (endT l a - t.From+1) * t.Cents+prS l a∧max 0 (endT l a - t.From+1) * t.Cents+prS l a≤_
  generalize max 0 (endT l a - t.From+1) * t.Cents=z at hm ⊢
  omega
theorem y8q:∀ (l:List yp) (a:Int),TC l→0≤a→0≤endT l a
 | [],a,_,h=>h
 | t::l,a,h,ha=>by rw [y39]; have:=h.1.1; omega
theorem y6m (l:List yp) (a:Int) (h:TC l) (ha:0≤a∧a≤1000000000000):0≤prS l a∧prS l a≤1000000000000000000:=by
 have h1:=y1s l a h
 have h2:=y8q l a h ha.1
 omega
structure PG (p:ya):Prop where
 key:keyP p.Key=true
 base:0≤p.Base∧p.Base≤1000000000000
 free:0≤p.Free∧p.Free≤1000000000000
 tc:TC p.Tiers
 len:p.Tiers.length≤20
theorem x99 {c:zx} {p:ya} (h:gL c p false=0):PG p:=by
 unfold gL at h
 cases hk:keyP p.Key
 ·rw [hk] at h; simp at h
 ·rw [hk] at h
  simp only [Bool.true_eq_false,if_false,Bool.false_eq_true] at h
  unfold plF at h
  rcases Bool.eq_false_or_eq_true (hasP c p.Product) with h1 | h1
  ·rcases Bool.eq_false_or_eq_true (outP p.Base 0 1000000000000) with h2 | h2
   ·simp [h1,h2] at h
   ·rcases Bool.eq_false_or_eq_true (outP p.Free 0 1000000000000) with h3 | h3
    ·simp [h1,h2,h3] at h
    ·by_cases h4:tsF p.Tiers=0
     ·exact ⟨hk,z0p h2,z0p h3,(x0j h4).1,(x0j h4).2⟩
     ·simp [h1,h2,h3,h4] at h
  ·simp [h1] at h
theorem Wp {c:zx} (h:catF c=0):(kf yh.Key c.Products∧kf ya.Key c.Plans)∧∀ p,p∈c.Plans→PG p:=by
 unfold catF at h
 by_cases h1:pdF c.Products≠0
 ·rw [if_pos h1] at h; exact absurd h h1
 ·rw [if_neg h1] at h
  by_cases h2:100 < c.Plans.length
  ·rw [if_pos h2] at h; omega
  ·rw [if_neg h2] at h
   obtain ⟨⟨h3,h4⟩,_⟩:=y4c (w41 c) c.Plans [] h
   exact ⟨⟨x2m (by simpa using h1),h3⟩,fun p hp=>x99 (h4 p hp)⟩
def Zl (p:ya) (calls:Int):Int:=prS p.Tiers (max 0 (calls - p.Free)) / 1000
theorem x0n:∀ (l:List yp) (n:Nat),TC l→TC (l.drop n)
 | l,0,h=>by simpa using h
 | [],n+1,h=>by simp [TC]
 | t::l,n+1,h=>x0n l n h.2.2
section
variable {p:ya} (hg:PG p) {calls:Int} (hc:0≤calls∧calls≤1000000000000)
include hg hc
theorem y0a:max 0 (wr (calls - p.Free))=max 0 (calls - p.Free)∧(0≤max 0 (calls - p.Free)∧max 0 (calls - p.Free)≤1000000000000):=by
 have:=hg.free
 rw [wi (by omega)]
 exact ⟨rfl,by omega⟩
theorem x2e:∀ (l:List yp) (k:Nat) (sum:Int),(∀ j,l[j]?=p.Tiers[k+j]?)→TC l→0≤sum→sum+prS l (max 0 (calls - p.Free))≤1000000000000000000→forL (fun (k:Nat) (x:yp) (s:Int)=>z1y p calls k x s) (fun (s:Int)=>z34 s) k l sum=some ((sum+prS l (max 0 (calls - p.Free))) / 1000)
 | [],k,sum,hl,ht,h0,h1=>by
  simp only [prS] at h1 ⊢
  show z34 sum=_
  unfold z34
  rw [if_pos (by omega)]
  simp
 | x::l,k,sum,hl,ht,h0,h1=>by
  obtain ⟨a1,a2⟩:=y0a hg hc
  obtain ⟨t1,t2,t3⟩:=ht
  have hk:=hg.len
  have e0:z1y p calls k x sum=some (.inl (sum+max 0 (endT l (max 0 (calls - p.Free)) - x.From+1) * x.Cents)):=by
   have hJ:∀ tt,tt=endT l (max 0 (calls - p.Free))→z1z sum x tt=some (.inl (sum+max 0 (endT l (max 0 (calls - p.Free)) - x.From+1) * x.Cents)):=by
    intro tt hto
    subst hto
    unfold z1z
    have b1:=y8r l (max 0 (calls - p.Free))
    have b2:=y8q l (max 0 (calls - p.Free)) t3 a2.1
    have b3:=y1s l (max 0 (calls - p.Free)) t3
    simp only [prS] at h1
    have hm:=y18 (p:=max 0 (endT l (max 0 (calls - p.Free)) - x.From+1)) (by omega) t1.2
    rw [wi (n:=endT l (max 0 (calls - p.Free)) - x.From) (by omega),wi (n:=endT l (max 0 (calls - p.Free)) - x.From+1) (by omega)]
    generalize max 0 (endT l (max 0 (calls - p.Free)) - x.From+1) * x.Cents=z at hm h1 ⊢
    rw [wi (n:=z) (by omega),wi (by omega)]
   unfold z1y
   rw [a1]
   have hn:l[0]?=p.Tiers[k+1]?:=by have:=hl 1; simpa using this
   by_cases hq:k+1 < p.Tiers.length
   ·rw [if_pos (by simp; omega)]
    obtain ⟨u,hu⟩:∃ u,p.Tiers[k+1]?=some u:=⟨_,List.getElem?_eq_getElem hq⟩
    rw [hu]
    refine hJ _ ?_
    rw [hu] at hn
    have hu':1≤u.From∧u.From≤1000000000000:=by
     cases l with
     | nil=>simp at hn
     | cons y l=>simp at hn; subst hn; exact t3.1.1
    rw [wi (by omega)]
    unfold endT
    rw [hn]
   ·rw [if_neg (by simp; omega)]
    refine hJ _ ?_
    have:p.Tiers[k+1]?=none:=List.getElem?_eq_none (by omega)
    rw [this] at hn
    unfold endT
    rw [hn]
  show (z1y p calls k x sum).bind _=_
  rw [e0]
  have hm:=y18 (p:=max 0 (endT l (max 0 (calls - p.Free)) - x.From+1)) (by omega) t1.2
  simp only [Option.bind_some,after]
  have e9:sum+prS (x::l) (max 0 (calls - p.Free))=sum+max 0 (endT l (max 0 (calls - p.Free)) - x.From+1) * x.Cents+prS l (max 0 (calls - p.Free)):=by simp only [prS]; omega
  rw [e9] at h1 ⊢
  refine x2e l (k+1) _ (fun j => ?_) t3 (by omega) h1
  have:=hl (j+1)
  rw [List.getElem?_cons_succ] at this
  rw [this]; congr 1; omega
theorem x2f:z4j p calls=some (Zl p calls):=by
 unfold z4j
 have hk:=hg.len
 have h1:=y6m _ _ hg.tc (y0a hg hc).2
 rw [if_pos (by omega),x2e hg hc p.Tiers 0 0 (fun j=>by simp) hg.tc (by omega) (by omega)]
 simp [Zl]
theorem x2d:∀ (n:Nat),n≤p.Tiers.length→back (fun (k:Nat) (x:yp) (s:Int×Int)=>z22 k x s.1 s.2) (fun (s:Int×Int)=>z5g s.1 s.2) p.Tiers n (endT (p.Tiers.drop n) (max 0 (calls - p.Free)),prS (p.Tiers.drop n) (max 0 (calls - p.Free)))=some (Zl p calls)
 | 0,_=>by
  have h1:=y6m _ _ hg.tc (y0a hg hc).2
  show z5g (endT (p.Tiers.drop 0) (max 0 (calls - p.Free))) (prS (p.Tiers.drop 0) (max 0 (calls - p.Free)))=_
  unfold z5g
  simp only [List.drop_zero]
  rw [if_pos (by omega)]
  rfl
 | n+1,hn=>by
  have ih:=x2d n (by omega)
  obtain ⟨a1,a2⟩:=y0a hg hc
  have hx:p.Tiers[n]?=some p.Tiers[n]:=List.getElem?_eq_getElem (by omega)
  have hd:p.Tiers.drop n=p.Tiers[n]::p.Tiers.drop (n+1):=List.drop_eq_getElem_cons (by omega)
  have ht:=x0n p.Tiers n hg.tc
  have hmx:=y6m _ _ ht a2
  rw [hd] at ih ht hmx
  generalize p.Tiers[n]=x at hx ih ht hmx
  generalize hl:p.Tiers.drop (n+1)=l at ih ht hmx ⊢
  obtain ⟨t1,t2,t3⟩:=ht
  obtain ⟨e1,e2⟩:=x4m t2 (max 0 (calls - p.Free))
  have b1:=y8r l (max 0 (calls - p.Free))
  have b2:=y8q l (max 0 (calls - p.Free)) t3 a2.1
  have b3:=y1s l (max 0 (calls - p.Free)) t3
  rw [y39] at ih e1
  simp only [prS] at ih hmx
  have hm:=y18 (p:=max 0 (endT l (max 0 (calls - p.Free)) - x.From+1)) (by omega) t1.2
  show (p.Tiers[n]?).bind _=_
  rw [hx]
  have e0:z22 n x (endT l (max 0 (calls - p.Free))) (prS l (max 0 (calls - p.Free)))=some (.inl (min (max 0 (calls - p.Free)) (x.From - 1),max 0 (endT l (max 0 (calls - p.Free)) - x.From+1) * x.Cents+prS l (max 0 (calls - p.Free)))):=by
   unfold z22
   by_cases hq:x.From≤endT l (max 0 (calls - p.Free))
   ·rw [if_pos (by simpa using hq)]
    have e3:max 0 (endT l (max 0 (calls - p.Free)) - x.From+1)=endT l (max 0 (calls - p.Free)) - x.From+1:=by omega
    have e4:min (max 0 (calls - p.Free)) (x.From - 1)=x.From - 1:=by omega
    rw [e3] at hm hmx
    rw [e3,e4,wi (n:=x.From - 1) (by omega),wi (n:=endT l (max 0 (calls - p.Free)) - x.From) (by omega),wi (n:=endT l (max 0 (calls - p.Free)) - x.From+1) (by omega)]
    generalize (endT l (max 0 (calls - p.Free)) - x.From+1) * x.Cents=z at hm hmx ⊢
    rw [wi (n:=z) (by omega),wi (by omega),Int.add_comm]
   ·rw [if_neg (by simpa using hq)]
    have e3:max 0 (endT l (max 0 (calls - p.Free)) - x.From+1)=0:=by omega
    have e4:=e2 (by omega)
    have e5:min (max 0 (calls - p.Free)) (x.From - 1)=endT l (max 0 (calls - p.Free)):=by omega
    rw [e3,e5]; simp
  simp only [Option.bind_some]
  show (z22 n x (endT l (max 0 (calls - p.Free))) (prS l (max 0 (calls - p.Free)))).bind _=_
  rw [e0]
  exact ih
theorem x94:z8n p calls=some (Zl p calls):=by
 unfold z8n
 have hk:=hg.len
 have h:=x2d hg hc p.Tiers.length (Nat.le_refl _)
 rw [if_pos (by omega),(y0a hg hc).1]
 rw [List.drop_length] at h
 exact h
end
def hasL (c:zx) (key:Bs):Bool:=c.Plans.any fun x=>decide (x.Key=key)
def ixL (c:zx) (key:Bs):Int:=fdx (fun x:ya=>decide (x.Key=key)) 0 c.Plans
def x96:ya:=ya.mk [] [] 0 0 [] 0 0 false
theorem z4e (c:zx) (key:Bs) (hl:c.Plans.length≤100000) (hr:kf ya.Key c.Plans):(hasL c key=false∧ixL c key < 0∧Yh c key=some (x96,false))∨(hasL c key=true∧0≤ixL c key∧∃ x,at? c.Plans (ixL c key)=some x∧x∈c.Plans∧x.Key=key∧Yh c key=some (x,true)):=by
 obtain ⟨r,h1,h2,h3⟩:=y8b ya.Key c.Plans key (p:=fun (a0:ya) (a1:Bs)=>z4k a0 a1) (by omega) (fun x _=>rfl) hr
 have h1':y2q c.Plans key (fun (a0:ya) (a1:Bs)=>z4k a0 a1)=some r:=h1
 unfold Yh
 rw [h1']
 simp only [Option.bind_some]
 have hn:decide (ixL c key < 0) = !hasL c key:=z04 (fun x:ya=>decide (x.Key=key)) c.Plans
 cases hq:hasL c key
 ·left
  have hq':(c.Plans.any fun x=>decide (x.Key=key))=false:=hq
  rw [hq'] at h2
  rw [hq] at hn
  rw [h2]
  exact ⟨rfl,by simpa using hn,rfl⟩
 ·right
  have hq':(c.Plans.any fun x=>decide (x.Key=key))=true:=hq
  obtain ⟨h4,x,h5,h6,h7⟩:=y32 _ _ hq'
  rw [hq'] at h2
  have e1:=h3 h2
  rw [h2,e1,h5]
  exact ⟨rfl,h4,x,h5,List.mem_of_getElem? h6,by simpa using h7,rfl⟩
theorem x93 (c:zx) (hb:CB c) (key:Bs) (calls:Int):z8b c key calls=some (if catF c≠0 then (0,catF c) else match at? c.Plans (ixL c key) with | none=>(0,8) | some x=>if outP calls 0 1000000000000=true then (0,1) else (Zl x calls,0)):=by
 unfold z8b
 rw [y84 c hb]
 simp only [Option.bind_some]
 by_cases h1:catF c=0
 ·obtain ⟨⟨hp,hl⟩,hg⟩:=Wp h1
  rw [if_neg (by simpa using h1),if_neg (by simpa using h1)]
  rcases z4e c key hb.nl hl with ⟨h2,h3,h4⟩ | ⟨h2,h3,x,h5,h6,_,h4⟩
  ·rw [h4]
   have:at? c.Plans (ixL c key)=none:=by unfold at?; rw [if_neg (by omega)]
   rw [this]
   rfl
  ·rw [h4,h5]
   simp only [Option.bind_some,z16,Bool.not_true,Bool.false_eq_true,if_false]
   by_cases h7:outP calls 0 1000000000000=true
   ·rw [if_pos h7,if_pos h7]
   ·rw [if_neg h7,if_neg h7,x2f (hg x h6) (z0p (by simpa using h7))]
    rfl
 ·rw [if_pos (by simpa using h1),if_pos h1]
theorem x2c:Wd=some true:=by
 unfold Wd
 rw [x93 _ ⟨by decide,by simp [Sh],by decide,by simp⟩]
 decide +kernel
theorem x85 {α:Type} {l:List α} {i:Nat} {y x:α} (h:x∈l.set i y):x∈l∨x=y:=List.mem_or_eq_of_mem_set h
structure CS (c:zx):Prop where
 np:c.Products.length≤10
 kp:∀ x,x∈c.Products→x.Key.length≤100∧Sh x.Scopes
 nl:c.Plans.length≤10
 kl:∀ x,x∈c.Plans→x.Key.length≤100∧x.Tiers.length≤10
theorem CS.cb {c:zx} (h:CS c):CB c:=⟨by have:=h.np; omega,fun x hx=>by have:=h.kp x hx; exact ⟨by omega,this.2⟩,by have:=h.nl; omega,fun x hx=>by have:=h.kl x hx; omega⟩
theorem x9v {k:Int} {s:zt} (h:SB k s) (hk:k≤100000):Ok (z2j s) fun r=>(r.1.Products.length=2∧(∀ x,x∈r.1.Products→x.Key.length≤100∧Sh x.Scopes)∧r.1.Plans.length≤4∧∀ x,x∈r.1.Plans→x.Key.length≤100∧x.Tiers.length≤3)∧SB (k+100) r.2:=by
 unfold z2j
 refine yn (x1r h (by omega)) fun r2 h2=>ok_g (by decide) ?_
 refine z4f (fun (j:Nat) (q:(List ya)×(List Int)×Int)=>SB (k+5+20 * (j:Int)) ⟨q.2.1,q.2.2⟩∧q.1.length≤j∧∀ x,x∈q.1→x.Key.length≤100∧x.Tiers.length≤3) _ 0 _ ⟨by simpa using h2.2,by simp,by simp⟩ ?_ ?_
 ·rintro j x ⟨l,c,d⟩ _ hx ⟨q1,q2,q3⟩
  simp only at q1 q2 q3
  have hj:j < 4:=by have:=jg hx; simp at this; omega
  have hx:x.length≤100:=by
   have h1:=List.mem_of_getElem? hx
   simp only [List.mem_cons,List.not_mem_nil,or_false] at h1
   rcases h1 with h1 | h1 | h1 | h1 <;> rw [h1] <;> decide
  unfold z5q Qd
  refine yn (xf q1 (by omega) _ (by omega)) fun r13 h13=>wt (fun _ => ?_) (fun _ => ?_)
  ·exact qo ⟨h13.mono (by omega),by simp only; omega,q3⟩
  ·refine yn (ud h13 (by omega) _ ⟨by simp,by simp⟩) fun r16 h16=>yn (xt h16.2 (by omega) _ ⟨by simp,by simp⟩) fun r18 h18=>yn (xt h18.2 (by omega) _ ⟨by simp,by simp⟩) fun r20 h20=>yn (xt h20.2 (by omega) _ ⟨by simp,by simp⟩) fun r22 h22=>yn (xt h22.2 (by omega) _ ⟨by simp,by simp⟩) fun r24 h24=>yn (xf h24.2 (by omega) _ (by omega)) fun r26 h26=>yn (xt h26 (by omega) _ ⟨by simp,by simp⟩) fun r28 h28 => ?_
   have h3:0≤r28.1∧r28.1≤3:=by
    have h1:=h28.1
    simp only [List.mem_cons,List.not_mem_nil,or_false] at h1
    omega
   refine ok_g (by omega) ?_
   refine z7m (fun (i:Nat) (q:Int×(List yp)×(List Int)×Int)=>SB (k+5+20 * (j:Int)+8+2 * (i:Int)) ⟨q.2.2.1,q.2.2.2⟩∧q.2.1.length≤i) _ 0 _ ⟨h28.2.mono (by simp; omega),by simp⟩ ?_ ?_
   ·rintro i ⟨v,t,c,d⟩ _ hi ⟨p1,p2⟩
    simp only at p1 p2
    unfold z5p
    refine yn (xt p1 (by omega) _ ⟨by simp,by simp⟩) fun r39 h39=>ok_g (by simp only; omega) (yn (xt h39.2 (by omega) _ ⟨by simp,by simp⟩) fun r42 h42=>qo ⟨h42.2.mono (by omega),by simp; omega⟩)
   ·rintro ⟨v,t,c,d⟩ ⟨p1,p2⟩
    simp only at p1 p2
    unfold z5r Qd
    refine ok_g (by simp only; omega) (qo ⟨p1.mono (by omega),by simp; omega,fun y hy => ?_⟩)
    rcases List.mem_append.1 hy with hy | hy
    ·exact q3 y hy
    ·simp only [List.mem_singleton] at hy
     subst hy
     exact ⟨hx,by simp only; omega⟩
 ·rintro ⟨l,c,d⟩ ⟨q1,q2,q3⟩
  simp only at q1 q2 q3
  unfold z5s
  refine qo ⟨⟨rfl,fun x hx => ?_,by simpa using q2,q3⟩,q1.mono (by simp; omega)⟩
  simp only [List.mem_cons,List.not_mem_nil,or_false] at hx
  rcases hx with hx | hx <;> subst hx
  ·exact ⟨by simp,by have:=h2.1.1; simp only; omega,fun y hy=>by have:=h2.1.2 y hy; omega⟩
  ·exact ⟨by simp,by simp,fun y hy=>by simp only [List.mem_singleton] at hy; subst hy; decide⟩
theorem w6k {k:Int} {s:zt} (h:SB k s) (hk:k≤10000):Ok (z8x s) fun r=>CS r.1∧SB (k+200) r.2:=by
 unfold z8x
 refine yn (x9v h (by omega)) fun r2 h2 => ?_
 obtain ⟨⟨c1,c2,c3,c4⟩,hs⟩:=h2
 have hc:CS r2.1:=⟨by omega,c2,by omega,fun x hx=>by have:=c4 x hx; omega⟩
 refine wt (fun hpos => ?_) (fun _=>qo ⟨hc,hs.mono (by omega)⟩)
 have hpos:0 < r2.1.Plans.length:=by simpa using hpos
 refine yn (xf hs (by omega) _ (by omega)) fun r6 h6=>wt (fun _ => ?_) (fun _=>qo ⟨hc,h6.mono (by omega)⟩)
 unfold y3s
 refine yn (Yx h6 (by omega) _ (by omega)) fun r13 h13 => ?_
 have b1:=h13.1.1
 have b2:=h13.1.2.1 (by omega)
 have hat:Ok (at? r2.1.Plans r13.1) fun x=>x∈r2.1.Plans:=by
  unfold at?
  rw [if_pos b1,List.getElem?_eq_getElem (by omega)]
  exact ⟨_,rfl,List.getElem_mem _⟩
 have hset:∀ p:ya,p.Key.length≤100→p.Tiers.length≤10→CS (zx.mk r2.1.Products (r2.1.Plans.set r13.1.toNat p)):=fun p hp ht=>⟨by simp only; omega,c2,by simp; omega,fun x hx=>by
  rcases x85 hx with hx | hx
  ·have:=c4 x hx; omega
  ·subst hx; exact ⟨hp,ht⟩⟩
 refine yn hat fun x15 h15=>yn (Yx h13.2 (by omega) _ (by omega)) fun r17 h17 => ?_
 have hx:=c4 x15 h15
 refine wt (fun _ => ?_) (fun _=>wt (fun _ => ?_) (fun _=>wt (fun _ => ?_) (fun _=>wt (fun _ => ?_) (fun _=>wt (fun _ => ?_) (fun _ => ?_)))))
 ·refine yn (ud h17.2 (by omega) _ ⟨by simp,by simp⟩) fun r20 h20=>qo ⟨hset _ ?_ (by simp only; omega),h20.2.mono (by omega)⟩
  have h1:=h20.1
  simp only [List.mem_cons,List.not_mem_nil,or_false] at h1
  simp only
  rcases h1 with h1 | h1 | h1 <;> rw [h1] <;> decide
 ·exact yn (ud h17.2 (by omega) _ ⟨by simp,by simp⟩) fun r20 h20=>qo ⟨hset _ (by simp only; omega) (by simp only; omega),h20.2.mono (by omega)⟩
 ·exact yn (Yw h17.2 (by omega) _ _ (by omega)) fun r20 h20=>yn (Yw h20.2 (by omega) _ _ (by omega)) fun r22 h22=>qo ⟨hset _ (by simp only; omega) (by simp only; omega),h22.2.mono (by omega)⟩
 ·exact yn (Yw h17.2 (by omega) _ _ (by omega)) fun r20 h20=>yn (Yw h20.2 (by omega) _ _ (by omega)) fun r22 h22=>ok_g (by omega) (qo ⟨hset _ (by simp only; omega) (by simp; omega),h22.2.mono (by omega)⟩)
 ·exact yn (Yw h17.2 (by omega) _ _ (by omega)) fun r20 h20=>yn (Yw h20.2 (by omega) _ _ (by omega)) fun r22 h22=>qo ⟨hset _ (by simp only; omega) (by simp only; omega),h22.2.mono (by omega)⟩
 ·refine yn (ud h17.2 (by omega) _ ⟨by simp,by simp⟩) fun r20 h20=>yn (x9f h20.2 (by omega)) fun r22 h22=>ok_g (by omega) (qo ⟨⟨by simp; omega,fun x hx => ?_,by simp only; omega,fun x hx=>by have:=c4 x hx; omega⟩,h22.2.mono (by omega)⟩)
  rcases List.mem_append.1 hx with hx | hx
  ·exact c2 x hx
  ·simp only [List.mem_singleton] at hx
   subst hx
   refine ⟨?_,h22.1.2⟩
   have h1:=h20.1
   simp only [List.mem_cons,List.not_mem_nil,or_false] at h1
   simp only
   rcases h1 with h1 | h1 | h1 <;> rw [h1] <;> decide
set_option linter.unusedSimpArgs false
set_option maxRecDepth 20000
theorem w6c (x y:Int):z2m x y=some (if x < y then -1 else if y < x then 1 else 0):=by
 unfold z2m z83
 simp only [ne_eq,not_true_eq_false,decide_false,Option.bind_some,Bool.false_eq_true,if_false,decide_eq_true_eq]
 by_cases h1:x < y
 ·rw [if_pos h1,if_pos h1]
 ·rw [if_neg h1,if_neg h1]
  by_cases h2:y < x
  ·rw [if_pos h2,if_pos h2]
  ·rw [if_neg h2,if_neg h2]
theorem w6b (x y:Bs):z84 x y=some (cmpL x y):=by
 unfold z84 z82
 simp only [ne_eq,not_true_eq_false,decide_false,Option.bind_some,Bool.false_eq_true,if_false]
 have e1:=y7j x y
 have e2:=jy x y
 rcases y81 x y with h | h | h
 ·rw [e1,h]; rfl
 ·have:x=y:=e2.1 h
  rw [e1,h]; subst this; simp
 ·have h3:x≠y:=fun h4=>by have:=e2.2 h4; omega
  have h4:(x == y)=false:=by simpa using h3
  rw [e1,h,h4]; rfl
def cmp2 (a b c d:Bs):Int:=if cmpL a c≠0 then cmpL a c else cmpL b d
theorem w6a (a b c d:Bs):z2b [a,b] [c,d]=some (cmp2 a b c d):=by
 unfold z2b cmp2
 rw [if_pos (by simp)]
 simp only [forL,y1d,y1e,w6b]
 by_cases h1:cmpL a c=0
 ·by_cases h2:cmpL b d=0
  ·simp [h1,h2,after]
  ·simp [h1,h2,after]
 ·simp [h1,after]
theorem w0k (x y z:Int):We [x,y,z]=some (if x≠0 then x else if y≠0 then y else z):=by
 unfold We
 rw [if_pos (by simp)]
 simp only [forL,z9x,z9y]
 by_cases h1:x=0
 ·by_cases h2:y=0
  ·by_cases h3:z=0
   ·simp [h1,h2,h3,after]
   ·simp [h1,h2,h3,after]
  ·simp [h1,h2,after]
 ·simp [h1,after]
def or3 (m n:Int) (a b c d:Bs):Int:=if m < n then -1 else if n < m then 1 else cmp2 a b c d
def orE (a b:zk):Int:=or3 a.At b.At a.App a.Product b.App b.Product
theorem x2q (m n:Int) (a b c d:Bs):((z2m m n).bind fun r3=>(uq a c).bind fun r5=>(uq b d).bind fun r7=>(We [r3,r5,r7]).bind fun r9=>some r9)=some (or3 m n a b c d):=by
 simp only [w6c,uq,Option.bind_some,w0k]
 congr 1
 unfold or3 cmp2
 by_cases h1:m < n
 ·simp [h1]
 ·by_cases h2:n < m
  ·simp [h1,h2]
  ·simp [h1,h2]
theorem x1x (m n:Int) (a b c d:Bs) (h:-1000000000000000000≤m∧m≤1000000000000000000∧-1000000000000000000≤n∧n≤1000000000000000000):(if decide (m≠n) then ((z4o (wr (m - n))).bind fun (r4:Int)=>some r4) else ((z2b [a,b] [c,d]).bind fun (r6:Int)=>some r6))=some (or3 m n a b c d):=by
 rw [w6a]
 unfold z4o or3
 rw [wi (by omega)]
 by_cases h1:m=n
 ·subst h1; simp
 ·simp only [ne_eq,h1,not_false_eq_true,decide_true,if_true,decide_eq_true_eq]
  by_cases h2:m < n
  ·have:m - n < 0:=by omega
   simp [h2,this]
  ·have h3:n < m:=by omega
   have h4:¬ m - n < 0:=by omega
   have h5:0 < m - n:=by omega
   simp [h2,h3,h4,h5]
theorem w6d (a b:zk):y2u a b=some (orE a b):=x2q ..
def atB (n:Int):Prop:=-1000000000000000000≤n∧n≤1000000000000000000
theorem y16 (a b:zk) (ha:atB a.At) (hb:atB b.At):Yy a b=some (orE a b):=x1x _ _ _ _ _ _ ⟨ha.1,ha.2,hb.1,hb.2⟩
structure EB (x:zk):Prop where
 t:atB x.At
 a:x.App.length≤1000000
 p:x.Product.length≤1000000
 l:x.Plan.length≤1000000
def ke (l:List zk) (k:Nat) (x:zk):Bool:=decide (0 < k) && match l[k - 1]? with | some y=>decide (0≤orE y x) | none=>false
structure EG (x:zk):Prop where
 t:0≤x.At∧x.At≤345686399999
 a:keyP x.App=true
 p:keyP x.Product=true
 k:1≤x.Kind∧x.Kind≤6
 l:x.Plan.length≤40
section
variable {α β σ τ ρ ρ':Type}
theorem z45 {body:σ→Option (σ ⊕ ρ)} {s s':σ} (h:body s=some (.inl s')):iter body s=iter body s':=by
 have key:∀ r,iter body s=some r↔iter body s'=some r:=fun r=>by
  rw [Wg,Wg]
  constructor
  ·rintro ⟨n,hn⟩
   cases n with
   | zero=>cases hn
   | succ n =>
    have hn:(body s).bind (after (itN body n))=some r:=hn
    rw [h] at hn
    exact ⟨n,hn⟩
  ·rintro ⟨n,hn⟩
   exact ⟨n+1,by show (body s).bind (after (itN body n))=some r; rw [h]; exact hn⟩
 cases h1:iter body s' with
 | some r=>exact (key r).2 h1
 | none =>
  cases h2:iter body s with
  | none=>rfl
  | some r=>rw [(key r).1 h2] at h1; cases h1
theorem uu {body:σ→Option (σ ⊕ ρ)} {s:σ} {r:ρ} (h:body s=some (.inr r)):iter body s=some r:=
 Wg.2 ⟨1,by show (body s).bind (after (itN body 0))=some r; rw [h]; rfl⟩
def gJ4 (i j:Int) (l:List α) (v:Bool):Option ((Int×List α) ⊕ ((Int×List α) ⊕ List α)):=
 if v then ((at? l (wr (j - 1))).bind fun (x22:α)=>(at? l j).bind fun (x24:α)=>(at? (l.set j.toNat x22) (wr (j - 1))).bind fun (x26:α)=>some (.inl (wr (j - 1),((l.set j.toNat x22).set ((wr (j - 1)).toNat) x24)))) else (Option.map .inr (some (.inl (wr (i+1),l))))
def gL3 (a:Int) (p:α→α→Option Int) (i j:Int) (l:List α):Option ((Int×List α) ⊕ ((Int×List α) ⊕ List α)):=
 if decide (a < j) then ((at? l j).bind fun (x13:α)=>(at? l (wr (j - 1))).bind fun (x15:α)=>(p x13 x15).bind fun (r17:Int)=>gJ4 i j l (decide (r17 < 0))) else (gJ4 i j l false)
noncomputable def gL1 (a b:Int) (p:α→α→Option Int) (i:Int) (l:List α):Option ((Int×List α) ⊕ List α):=
 if decide (i < b) then (iter (fun (s:Int×List α)=>gL3 a p i s.1 s.2) (i,l)) else (some (.inr l))
noncomputable def gIns (l:List α) (a b:Int) (p:α→α→Option Int):Option (List α):=iter (fun (s:Int×List α)=>gL1 a b p s.1 s.2) (wr (a+1),l)
theorem x5j (A C:List α) (x:α):at? (A++x::C) (A.length:Int)=some x:=by
 rw [z1e]; simp
theorem x7i (A C:List α) (y x:α):((A++y::x::C).set (A.length+1) y).set A.length x=A++x::y::C:=by
 induction A with
 | nil=>rfl
 | cons a A ih=>simp only [List.cons_append,List.length_cons,List.set_cons_succ,ih]
section
variable {p:α→α→Option Int} {q:β→β→Option Int} {f:α→β}
def y28 (p:α→α→Option Int) (q:β→β→Option Int) (f:α→β) (x y:α):Prop:=∃ c d,p x y=some c∧q (f x) (f y)=some d∧(c < 0↔d < 0)
theorem y78 (i:Int) (l:List α):gL3 0 p i 0 l=some (.inr (.inl (wr (i+1),l))):=by
 unfold gL3 gJ4
 simp
theorem y79 (i:Int) (A C:List α) (y x:α) {c:Int} (hA:A.length≤1000000) (hp:p x y=some c) (hc:¬ c < 0):gL3 0 p i ((A.length+1:Nat):Int) (A++y::x::C)=some (.inr (.inl (wr (i+1),A++y::x::C))):=by
 have e1:wr (((A.length+1:Nat):Int) - 1)=(A.length:Int):=by rw [wi (by omega)]; omega
 have e2:at? (A++y::x::C) ((A.length+1:Nat):Int)=some x:=by rw [z1e]; simp
 unfold gL3 gJ4
 rw [if_pos (by simp),e1,e2,x5j]
 simp only [Option.bind_some,hp]
 rw [if_neg (by simpa using hc)]; rfl
theorem y8a (i:Int) (A C:List α) (y x:α) {c:Int} (hA:A.length≤1000000) (hp:p x y=some c) (hc:c < 0):gL3 0 p i ((A.length+1:Nat):Int) (A++y::x::C)=some (.inl ((A.length:Int),A++x::y::C)):=by
 have e1:wr (((A.length+1:Nat):Int) - 1)=(A.length:Int):=by rw [wi (by omega)]; omega
 have e2:at? (A++y::x::C) ((A.length+1:Nat):Int)=some x:=by rw [z1e]; simp
 unfold gL3 gJ4
 rw [if_pos (by simp),e1,e2,x5j]
 simp only [Option.bind_some,hp]
 rw [if_pos (by simpa using hc)]
 simp only [Int.toNat_natCast]
 have e3:at? ((A++y::x::C).set (A.length+1) y) (A.length:Int)=some y:=by
  rw [z1e,List.getElem?_set_ne (by omega)]; simp
 rw [e3]
 simp only [Option.bind_some]
 rw [x7i]
theorem w4o (i:Int) (x:α) (C:List α):∀ (n:Nat) (A B:List α),A.length=n→n≤1000000→(∀ y,y∈A→y28 p q f x y) →
  ∃ A' B',A'++B'=A++B∧iter (fun (s:Int×List α)=>gL3 0 p i s.1 s.2) ((n:Int),A++x::(B++C))=some (.inl (wr (i+1),A'++x::(B'++C))) ∧
   iter (fun (s:Int×List β)=>gL3 0 q i s.1 s.2) ((n:Int),(A++x::(B++C)).map f)=some (.inl (wr (i+1),(A'++x::(B'++C)).map f)):=by
 intro n
 induction n with
 | zero =>
  intro A B hA _ _
  exact ⟨A,B,rfl,uu (y78 i _),uu (y78 i _)⟩
 | succ n ih =>
  intro A B hA hn hg
  obtain ⟨A0,y,rfl⟩:∃ A0 y,A=A0++[y]:=by
   rcases List.eq_nil_or_concat A with rfl | ⟨A0,y,h⟩
   ·simp at hA
   ·exact ⟨A0,y,by simpa using h⟩
  have hA0:A0.length=n:=by simpa using hA
  obtain ⟨c,d,h1,h2,h3⟩:=hg y (by simp)
  subst hA0
  have e1:(A0++[y])++x::(B++C)=A0++y::x::(B++C):=by simp
  have e2:(A0++y::x::(B++C)).map f=A0.map f++f y::f x::(B++C).map f:=by simp
  have hl:A0.length=(A0.map f).length:=by simp
  by_cases hc:c < 0
  ·obtain ⟨A',B',q1,q2,q3⟩:=ih A0 (y::B) rfl (by omega) (fun z hz=>hg z (List.mem_append_left _ hz))
   refine ⟨A',B',by rw [q1]; simp,?_,?_⟩
   ·rw [e1]
    exact (z45 (y8a i A0 (B++C) y x (by omega) h1 hc)).trans q2
   ·rw [e1,e2]
    have h4:=y8a i (A0.map f) ((B++C).map f) (f y) (f x) (by rw [← hl]; omega) h2 (h3.1 hc)
    rw [← hl] at h4
    refine (z45 h4).trans ?_
    have e3:(A0++x::(y::B++C)).map f=A0.map f++f x::f y::(B++C).map f:=by simp
    rw [← e3]; exact q3
  ·refine ⟨A0++[y],B,rfl,?_,?_⟩
   ·rw [e1]
    exact uu (y79 i A0 (B++C) y x (by omega) h1 hc)
   ·rw [e1,e2]
    have h4:=y79 i (A0.map f) ((B++C).map f) (f y) (f x) (by rw [← hl]; omega) h2 (fun h=>hc (h3.2 h))
    rw [← hl] at h4
    exact uu h4
theorem x31 (m:Nat):∀ (rest pre:List α),pre.length+rest.length=m→m≤1000000→(∀ y x,y∈pre→x∈rest→y28 p q f x y)→rest.Pairwise (fun y x=>y28 p q f x y) →
  ∃ r,r.Perm (pre++rest)∧iter (fun (s:Int×List α)=>gL1 0 (m:Int) p s.1 s.2) ((pre.length:Int),pre++rest)=some r ∧
   iter (fun (s:Int×List β)=>gL1 0 (m:Int) q s.1 s.2) ((pre.length:Int),(pre++rest).map f)=some (r.map f)
 | [],pre,hm,_,_,_=>by
  refine ⟨pre++[],List.Perm.refl _,uu ?_,uu ?_⟩
  ·unfold gL1; rw [if_neg (by simp at hm; simp; omega)]
  ·unfold gL1; rw [if_neg (by simp at hm; simp; omega)]
 | x::rest,pre,hm,hb,hg,hp=>by
  simp only [List.length_cons] at hm
  obtain ⟨hp1,hp2⟩:=List.pairwise_cons.1 hp
  obtain ⟨A',B',q1,q2,q3⟩:=w4o (p:=p) (q:=q) (f:=f) (pre.length:Int) x rest pre.length pre [] rfl (by omega) (fun y hy=>hg y x hy (by simp))
  rw [List.append_nil] at q1
  rw [List.nil_append] at q2 q3
  have hw:wr ((pre.length:Int)+1)=((pre.length+1:Nat):Int):=y90 (by omega)
  have hlen:(A'++x::B').length=pre.length+1:=by
   have:=congrArg List.length q1
   simp at this ⊢; omega
  have hperm:(A'++x::B').Perm (x::pre):=by
   rw [← q1]; exact List.perm_middle
  obtain ⟨r,r1,r2,r3⟩:=x31 m rest (A'++x::B') (by rw [hlen]; omega) hb (fun y z hy hz=>by
   rcases List.mem_cons.1 (hperm.mem_iff.1 hy) with rfl | hy
   ·exact hp1 z hz
   ·exact hg y z hy (List.mem_cons_of_mem _ hz)) hp2
  have e0:A'++x::(B'++rest)=(A'++x::B')++rest:=by simp
  rw [hlen,← hw,← e0] at r2 r3
  have hlt:decide ((pre.length:Int) < (m:Int))=true:=by simp; omega
  refine ⟨r,r1.trans ?_,?_,?_⟩
  ·refine (hperm.append_right rest).trans ?_
   exact List.perm_middle.symm
  ·refine (z45 (s':=(wr ((pre.length:Int)+1),A'++x::(B'++rest))) ?_).trans r2
   unfold gL1
   rw [if_pos hlt]
   exact q2
  ·refine (z45 (s':=(wr ((pre.length:Int)+1),(A'++x::(B'++rest)).map f)) ?_).trans r3
   unfold gL1
   rw [if_pos hlt]
   exact q3
theorem w43 (l:List α) (h:l.length≤1000000) (hp:l.Pairwise fun y x=>y28 p q f x y):∃ r,r.Perm l∧gIns l 0 (l.length:Int) p=some r∧gIns (l.map f) 0 (l.length:Int) q=some (r.map f):=by
 have hw:wr ((0:Int)+1)=1:=by decide
 unfold gIns
 rw [hw]
 cases l with
 | nil =>
  refine ⟨[],List.Perm.refl _,uu ?_,uu ?_⟩
  ·unfold gL1; rw [if_neg (by simp)]
  ·unfold gL1; rw [if_neg (by simp)]
 | cons x l =>
  obtain ⟨hp1,hp2⟩:=List.pairwise_cons.1 hp
  obtain ⟨r,r1,r2,r3⟩:=x31 (x::l).length l [x] (by simp only [List.length_cons,List.length_nil]; omega) h (fun y z hy hz=>by rw [List.mem_singleton.1 hy]; exact hp1 z hz) hp2
  exact ⟨r,r1,r2,r3⟩
end
noncomputable def gPdq (v1:List α) (v2 v3 v4:Int) (p4:α→α→Option Int):Option (List α):=
 iter (fun (s:Int×Int×Int×Bool×Bool)=>if decide ((wr (s.2.1 - s.1))≤12) then ((gIns v1 s.1 s.2.1 p4).bind fun (r12:List α)=>if r12.length=v1.length then (some (.inr r12)) else none) else (if decide (s.2.2.1=0) then none else none)) (v2,v3,v4,true,true)
theorem w4y (l r:List α) (p:α→α→Option Int) (v:Int) (h:l.length≤12) (hr:gIns l 0 (l.length:Int) p=some r) (hl:r.length=l.length):gPdq l 0 (l.length:Int) v p=some r:=by
 refine uu ?_
 have e:wr ((l.length:Int) - 0)=(l.length:Int):=by rw [wi (by omega)]; omega
 show (if decide ((wr ((l.length:Int) - 0))≤12) then _ else _)=_
 rw [e,if_pos (by simp; omega),hr]
 simp only [Option.bind_some]
 rw [if_pos hl]
noncomputable def w4x (n2:Int) (bs a19 b20:Int):Option ((Int×Int) ⊕ (Int ⊕ List α)):=
 if decide (b20≤n2) then none else (Option.map .inr (if decide ((wr (a19+bs)) < n2) then none else (some (.inl (wr (bs * 2))))))
noncomputable def y76 (n2:Int) (r13:List α) (bs:Int):Option (Int ⊕ List α):=
 if decide (bs < n2) then (iter (fun (s:Int×Int)=>w4x n2 bs s.1 s.2) (0,wr (2 * bs))) else (some (.inr r13))
noncomputable def x39 (n2:Int) (p2:α→α→Option Int) (a11:Int) (d12:List α):Option (List α):=
 (gIns d12 a11 n2 p2).bind fun (r13:List α)=>if r13.length=d12.length then (iter (fun (s:Int)=>y76 n2 r13 s) 20) else none
noncomputable def y77 (n2:Int) (p2:α→α→Option Int) (a3 b4:Int) (l5:List α):Option ((Int×Int×List α) ⊕ List α):=
 if decide (b4≤n2) then ((gIns l5 a3 b4 p2).bind fun (r8:List α)=>if r8.length=l5.length then (some (.inl (b4,wr (b4+20),r8))) else none) else (Option.map .inr (x39 n2 p2 a3 l5))
noncomputable def w4w (d1:List α) (n2:Int) (p2:α→α→Option Int):Option (List α):=iter (fun (s:Int×Int×List α)=>y77 n2 p2 s.1 s.2.1 s.2.2) (0,20,d1)
theorem w4v (l r:List α) (p:α→α→Option Int) (h:l.length≤19) (hr:gIns l 0 (l.length:Int) p=some r) (hl:r.length=l.length):w4w l (l.length:Int) p=some r:=by
 refine uu ?_
 show y77 (l.length:Int) p 0 20 l=_
 unfold y77 x39
 rw [if_neg (by simp; omega),hr]
 simp only [Option.bind_some]
 rw [if_pos hl]
 have:iter (fun (s:Int)=>y76 (l.length:Int) r s) 20=some r:=by
  refine uu ?_
  unfold y76
  rw [if_neg (by simp; omega)]
 rw [this]; rfl
end
section
variable {α:Type}
noncomputable def gCfJ (z:α) (v30:Int) (v31:List α):Option (Int ⊕ List α):=
 if (0:Int)≤v30∧v30 < (v31.length:Int) then (if (0:Int)≤v30∧v30≤((v31.take v30.toNat++List.replicate (v31.length - v30.toNat) z).length:Int) then (some (.inr ((v31.take v30.toNat++List.replicate (v31.length - v30.toNat) z).take v30.toNat))) else none) else none
noncomputable def gCfI (z:α) (p1:α→α→Option Bool) (v3 v14 v15:Int) (l16:List α):Option ((Int×Int×List α) ⊕ (Int ⊕ List α)):=
 if decide (v15 < ((l16.drop v3.toNat).length:Int)) then ((at? (l16.drop v3.toNat) v15).bind fun x19=>(at? (l16.drop v3.toNat) (wr (v15 - 1))).bind fun x21=>(p1 x19 x21).bind fun (r23:Bool)=>if !r23 then ((at? l16 v14).bind fun x26=>some (.inl (wr (v14+1),wr (v15+1),l16.set v14.toNat x19))) else (some (.inl (v14,wr (v15+1),l16)))) else (Option.map .inr (gCfJ z v14 l16))
noncomputable def gCfO (z:α) (v1:List α) (p1:α→α→Option Bool) (v3:Int):Option (Int ⊕ List α):=
 if decide (v3 < (v1.length:Int)) then ((at? v1 v3).bind fun x6=>(at? v1 (wr (v3 - 1))).bind fun x8=>(p1 x6 x8).bind fun (r10:Bool)=>if r10 then (if (0:Int)≤v3∧v3 < (v1.length:Int) then (iter (fun (s:Int×Int×List α)=>gCfI z p1 v3 s.1 s.2.1 s.2.2) (v3,1,v1)) else none) else (some (.inl (wr (v3+1))))) else (Option.map .inr (some v1))
noncomputable def gCf (z:α) (v1:List α) (p1:α→α→Option Bool):Option (List α):=
 if decide ((v1.length:Int) < 2) then some v1 else (iter (fun (s:Int)=>gCfO z v1 p1 s) 1)
theorem Wr (l:List α) (m:Int) (h:0≤m∧m < (l.length:Int)):∃ y,at? l m=some y∧y∈l∧l[m.toNat]?=some y:=by
 unfold at?
 rw [if_pos h.1,List.getElem?_eq_getElem (by omega)]
 exact ⟨_,rfl,List.getElem_mem _,rfl⟩
theorem w47 (z:α) (l:List α) (p:α→α→Option Bool) (hl:l.length≤1000000) (hp:∀ x y,x∈l→y∈l→∃ b,p x y=some b):Ok (gCf z l p) fun r=>r.length≤l.length∧∀ x,x∈r→x∈l:=by
 unfold gCf
 refine wt (fun _=>qo ⟨Nat.le_refl _,fun x hx=>hx⟩) (fun h2 => ?_)
 have h2:2≤l.length:=by simp at h2; omega
 refine y6y (fun s:Int=>1≤s∧s≤(l.length:Int)) (fun s=>((l.length:Int) - s).toNat) ?_ 1 ⟨by omega,by omega⟩
 intro s hs
 unfold gCfO
 refine wt (fun hc => ?_) (fun hc=>qo ⟨Nat.le_refl _,fun x hx=>hx⟩)
 have hc:s < (l.length:Int):=by simpa using hc
 obtain ⟨x,hx,mx,_⟩:=Wr l s ⟨by omega,hc⟩
 obtain ⟨y,hy,my,_⟩:=Wr l (s - 1) ⟨by omega,by omega⟩
 rw [wi (n:=s - 1) (by omega),hx,hy]
 obtain ⟨b,hb⟩:=hp x y mx my
 simp only [Option.bind_some,hb]
 refine wt (fun _=>ok_g ⟨by omega,hc⟩ ?_) (fun _=>qo ?_)
 ·refine y6y (fun q:Int×Int×List α=>s≤q.1∧1≤q.2.1∧q.1 < s+q.2.1∧s+q.2.1≤(l.length:Int)∧q.2.2.length=l.length∧∀ x,x∈q.2.2→x∈l) (fun q=>((l.length:Int) - q.2.1).toNat) ?_ _ ⟨by simp,by simp,by simp only; omega,by simp only; omega,rfl,fun x hx=>hx⟩
  rintro ⟨i,j,m⟩ ⟨q1,q2,q3,q4,q5,q6⟩
  simp only at q1 q2 q3 q4 q5 q6
  unfold gCfI
  have hd:((m.drop s.toNat).length:Int)=(l.length:Int) - s:=by rw [List.length_drop]; omega
  refine wt (fun hj => ?_) (fun hj => ?_)
  ·have hj:j < ((m.drop s.toNat).length:Int):=by simpa using hj
   obtain ⟨x1,e1,m1,_⟩:=Wr (m.drop s.toNat) j ⟨by omega,hj⟩
   obtain ⟨x2,e2,m2,_⟩:=Wr (m.drop s.toNat) (j - 1) ⟨by omega,by omega⟩
   obtain ⟨x3,e3,m3,_⟩:=Wr m i ⟨by omega,by omega⟩
   obtain ⟨b2,hb2⟩:=hp x1 x2 (q6 _ (List.mem_of_mem_drop m1)) (q6 _ (List.mem_of_mem_drop m2))
   simp only
   rw [wi (n:=j - 1) (by omega),e1,e2]
   simp only [Option.bind_some,hb2,e3]
   rw [wi (n:=j+1) (by omega),wi (n:=i+1) (by omega)]
   refine wt (fun _=>qo ?_) (fun _=>qo ?_)
   ·refine ⟨⟨by simp only; omega,by simp only; omega,by simp only; omega,by simp only; omega,by simp only [List.length_set]; exact q5,fun x hx => ?_⟩,by simp only; omega⟩
    rcases List.mem_or_eq_of_mem_set hx with hx | hx
    ·exact q6 x hx
    ·rw [hx]; exact q6 _ (List.mem_of_mem_drop m1)
   ·exact ⟨⟨by simp only; omega,by simp only; omega,by simp only; omega,by simp only; omega,q5,q6⟩,by simp only; omega⟩
  ·have hj:¬ j < ((m.drop s.toNat).length:Int):=by simpa using hj
   simp only
   unfold gCfJ
   rw [if_pos ⟨by omega,by omega⟩,if_pos ⟨by omega,by simp; omega⟩]
   refine qo ?_
   simp only [rd]
   have e:(m.take i.toNat++List.replicate (m.length - i.toNat) z).take i.toNat=m.take i.toNat:=by
    have:(m.take i.toNat).length=i.toNat:=by rw [List.length_take]; omega
    conv=>lhs; arg 1; rw [← this]
    rw [List.take_left]
   rw [e]
   exact ⟨by rw [List.length_take]; omega,fun x hx=>q6 x (List.mem_of_mem_take hx)⟩
 ·simp only [rd]
  rw [wi (n:=s+1) (by omega)]
  omega
theorem x3b (l:List α) (h:l≠[]) (hl:l.length≤1000000000):∃ y,at? l (wr ((l.length:Int) - 1))=some y∧l.getLast?=some y:=by
 have hp:0 < l.length:=by cases l with | nil=>exact absurd rfl h | cons _ _=>simp
 rw [wi (by omega)]
 obtain ⟨y,h1,_,h3⟩:=Wr l ((l.length:Int) - 1) ⟨by omega,by omega⟩
 refine ⟨y,h1,?_⟩
 rw [List.getLast?_eq_getElem?,← h3]
 congr 1
 omega
end
theorem x9w {k:Int} {s:zt} (h:SB k s) (hk:k≤100000):Ok (z8u s) fun r=>(r.1.length≤3∧∀ x,x∈r.1→x.Key.length≤100∧x.Owner.length≤100)∧SB (k+2) r.2:=by
  unfold z8u
  refine yn (ud h (by omega) _ ⟨by simp,by simp⟩) fun r2 h2=>yn (xt h2.2 (by omega) _ ⟨by simp,by simp⟩) fun r4 h4 => ?_
  have b4:=h4.1
  simp only [List.mem_cons,List.not_mem_nil,or_false] at b4
  have b2:r2.1.length≤100:=by
    have h1:=h2.1
    simp only [List.mem_cons,List.not_mem_nil,or_false] at h1
    rcases h1 with h1 | h1 <;> rw [h1] <;> decide
  have hs:∀ (l:List zy),l.length=3→(∀ x,x∈l→x.Key.length≤100∧x.Owner.length≤100)→(l.take r4.1.toNat).length≤3∧∀ x,x∈l.take r4.1.toNat→x.Key.length≤100∧x.Owner.length≤100:=fun l hl hx=>⟨by rw [List.length_take]; omega,fun x h=>hx x (List.mem_of_mem_take h)⟩
  have hsub:=hs [(zy.mk [97,112,112,49] [97,110,110]),(zy.mk [97,112,112,50] r2.1),(zy.mk [97,112,112,51] [98,111,98])] rfl fun x hx => ?_
  · first
    | exact ok_g (by simp only [List.length_cons,List.length_nil]; omega) (qo ⟨hsub,h4.2.mono (by omega)⟩)
    | (unfold sub?
       rw [if_pos (by simp only [List.length_cons,List.length_nil]; omega)]
       exact qo ⟨hsub,h4.2.mono (by omega)⟩)
  simp only [List.mem_cons,List.not_mem_nil,or_false] at hx
  rcases hx with hx | hx | hx <;> subst hx
  · exact ⟨by simp,by simp⟩
  · exact ⟨by simp,b2⟩
  · exact ⟨by simp,by simp⟩
theorem w7b {k:Int} {s:zt} (h:SB k s) (hk:k≤100000):Ok (z8y s) fun r=>(r.1.length≤4∧∀ x,x∈r.1→x.Key.length≤100∧x.Owner.length≤100)∧SB (k+10) r.2:=by
 unfold z8y z5v
 refine yn (x9w h hk) fun r2 h2=>yn (xf h2.2 (by omega) _ (by omega)) fun r4 h4=>wt (fun _ => ?_) (fun _=>qo ⟨⟨by have:=h2.1.1; simp only; omega,h2.1.2⟩,h4.mono (by omega)⟩)
 refine yn (ud h4 (by omega) _ ⟨by simp,by simp⟩) fun r6 h6=>yn (ud h6.2 (by omega) _ ⟨by simp,by simp⟩) fun r8 h8=>ok_g (by have:=h2.1.1; omega) (qo ⟨⟨by have:=h2.1.1; simp; omega,fun x hx => ?_⟩,h8.2.mono (by omega)⟩)
 rcases List.mem_append.1 hx with hx | hx
 ·exact h2.1.2 x hx
 ·simp only [List.mem_singleton] at hx
  subst hx
  have h1:=h6.1
  have h3:=h8.1
  simp only [List.mem_cons,List.not_mem_nil,or_false] at h1 h3
  exact ⟨by rcases h1 with h1 | h1 | h1 <;> simp only [h1] <;> decide,by rcases h3 with h1 | h1 <;> simp only [h1] <;> decide⟩
theorem w4f (c:zx) (key:Bs) (h:¬ ixL c key < 0):∃ y,at? c.Plans (ixL c key)=some y:=by
 have h1:=y8i (fun x:ya=>decide (x.Key=key)) c.Plans
 have h2:decide (0≤fdx (fun x:ya=>decide (x.Key=key)) 0 c.Plans)=true:=by
  have:0≤ixL c key:=by omega
  simpa [ixL] using this
 rw [h2] at h1
 obtain ⟨_,x,h3,_⟩:=y32 _ c.Plans h1.symm
 exact ⟨x,h3⟩
theorem w7h (c:zx) (hb:c.Plans.length≤100000) (s:zw) (x:zk):Ok (z0w c s x) fun _=>True:=by
 have hp:xc c x.Plan=some (ixL c x.Plan):=y11 c x.Plan hb
 unfold z0w z2v xv z2u z2t
 by_cases hk:x.Kind=1
 ·by_cases hi:ixL c x.Plan < 0
  ·simp only [hk,hp,hi,decide_true,if_true,Option.bind_some]
   exact qo trivial
  ·obtain ⟨y,hy⟩:=w4f c x.Plan hi
   simp only [hk,hp,hi,hy,Wi,decide_true,decide_false,Bool.false_eq_true,if_false,if_true,Option.bind_some]
   repeat' first | exact qo trivial | refine wt (fun _ => ?_) (fun _ => ?_)
 ·simp only [hk,Wi,decide_false,Bool.false_and,Bool.false_eq_true,if_false,Option.bind_some]
  repeat' first | exact qo trivial | refine wt (fun _ => ?_) (fun _ => ?_)
theorem x8r (c:zx) (hb:c.Plans.length≤100000) (l:List zk) (hl:l.length≤1000000) (a p:Bs):Ok (z8k c l a p) fun r=>r.1≠[]∧r.1.length≤l.length+1:=by
 unfold z8k z0v
 simp only [Option.bind_some]
 refine ok_g (by omega) ?_
 refine z4f (fun (j:Nat) (q:(List zw)×(List Int))=>q.1≠[]∧q.1.length≤j+1∧q.2.length≤j) _ 0 _ ⟨by simp,by simp,by simp⟩ ?_ ?_
 ·rintro j x ⟨u,v⟩ _ hx ⟨q1,q2,q3⟩
  simp only at q1 q2 q3
  have hj:j < l.length:=by have:=jg hx; omega
  unfold y3d z2x
  refine wt (fun _=>qo ⟨q1,by simp only; omega,by simp only; omega⟩) (fun _ => ?_)
  obtain ⟨y,hy,_⟩:=x3b u q1 (by omega)
  simp only [hy,Option.bind_some]
  refine yn (w7h c hb y x) fun r _=>wt (fun _=>ok_g (by omega) (qo ?_)) (fun _=>ok_g (by omega) (qo ?_))
  ·exact ⟨by simp,by simp; omega,by simp only; omega⟩
  ·exact ⟨q1,by simp only; omega,by simp; omega⟩
 ·rintro ⟨u,v⟩ ⟨q1,q2,q3⟩
  unfold y3e
  exact qo ⟨q1,by simp only at q2 ⊢; omega⟩
abbrev EQ:Type:=(Int×(List Int)×Int×(List zk)) ⊕ ((List zk)×zt)
def ER (K:Int) (a:Int) (n:Nat) (R:(List zk)×zt→Prop):EQ→Prop:=
 rd (fun q=>SB K ⟨q.2.1,q.2.2.1⟩∧(0≤q.1∧q.1≤a+2592000000)∧q.2.2.2.length≤n+1∧∀ x,x∈q.2.2.2→EB x) R
section
variable {K:Int} {n:Nat} {v5:Int} {l8:List zk} {r21:Int×zt} {r25:Bs×zt} {R:(List zk)×zt→Prop}
variable (hv:0≤v5∧v5≤1000000000000000) (h21:0≤r21.1∧r21.1≤2592000000) (hl:l8.length≤n∧n≤1000∧∀ x,x∈l8→EB x) (h25:r25.1.length≤100)
include hv h21 hl
theorem eJ2 {K2:Int} (hK:K2≤K) {c d} (hs:SB K2 ⟨c,d⟩):Ok (z03 (wr (v5+r21.1)) l8 c d) (ER K v5 n R):=by
 unfold z03
 rw [wi (by omega)]
 exact qo ⟨hs.mono hK,by simp only; omega,by have:=hl.1; simp only; omega,hl.2.2⟩
theorem eJ9 {K2:Int} (hK:K2≤K) {c d} (hs:SB K2 ⟨c,d⟩) {t:Int} {a p k q} (hx:EB (zk.mk t a p k q)):Ok (Yk v5 l8 r21 c d t a p k q) (ER K v5 n R):=by
 have h1:=hl.1
 have h2:=hl.2.1
 unfold Yk z03
 rw [wi (by omega)]
 refine ok_g (by omega) (qo ⟨hs.mono hK,by simp only; omega,by simp; omega,fun x hm => ?_⟩)
 rcases List.mem_append.1 hm with hm | hm
 ·exact hl.2.2 x hm
 ·rw [List.mem_singleton.1 hm]; exact hx
include h25
theorem eJ8 {c44:Bs} (h44:c44.length≤100) {c76:Int} {c d} (hs:SB K ⟨c,d⟩) (hk:K≤100000) {q:Bs} (hq:q.length≤100):Ok (z27 v5 l8 r21 r25 c44 c76 c d q) (ER (K+4) v5 n R):=by
 unfold z27
 have ht:atB (wr (v5+r21.1)):=by rw [wi (by omega)]; unfold atB; omega
 refine yn (xf hs (by omega) _ (by omega)) fun r86 h86=>wt (fun _ => ?_) (fun _=>eJ9 hv h21 hl (by omega) h86 ⟨ht,by simp only; omega,by simp only; omega,by simp only; omega⟩)
 refine yn (Yx h86 (by omega) _ (by omega)) fun r89 h89=>wt (fun _ => ?_) (fun _=>wt (fun _ => ?_) (fun _=>wt (fun _ => ?_) (fun _=>wt (fun _ => ?_) (fun _ => ?_))))
 ·unfold y20
  refine yn (Q:=fun (r:Bs×zt)=>r.1.length≤100∧SB (K+3) r.2) (yn (ud h89.2 (by omega) _ ⟨by simp,by simp⟩) fun r2 h2=>qo ⟨?_,h2.2.mono (by omega)⟩) fun r92 h92=>eJ9 hv h21 hl (by omega) h92.2 ⟨ht,by have:=h92.1; simp only; omega,by simp only; omega,by simp only; omega⟩
  have h1:=h2.1
  simp only [List.mem_cons,List.not_mem_nil,or_false] at h1
  rcases h1 with h1 | h1 | h1 | h1 | h1 | h1 <;> simp only [h1] <;> decide
 ·unfold y2z
  refine yn (Q:=fun (r:Bs×zt)=>r.1.length≤100∧SB (K+3) r.2) (yn (ud h89.2 (by omega) _ ⟨by simp,by simp⟩) fun r2 h2=>qo ⟨?_,h2.2.mono (by omega)⟩) fun r92 h92=>eJ9 hv h21 hl (by omega) h92.2 ⟨ht,by simp only; omega,by have:=h92.1; simp only; omega,by simp only; omega⟩
  have h1:=h2.1
  simp only [List.mem_cons,List.not_mem_nil,or_false] at h1
  rcases h1 with h1 | h1 | h1 | h1 | h1 <;> simp only [h1] <;> decide
 ·exact yn (Yw h89.2 (by omega) _ _ (by omega)) fun r98 h98=>eJ9 hv h21 hl (by omega) h98.2 ⟨ht,by simp only; omega,by simp only; omega,by simp only; omega⟩
 ·refine yn (ud h89.2 (by omega) _ ⟨by simp,by simp⟩) fun r101 h101=>eJ9 hv h21 hl (by omega) h101.2 ⟨ht,by simp only; omega,by simp only; omega,?_⟩
  have h1:=h101.1
  simp only [List.mem_cons,List.not_mem_nil,or_false] at h1
  rcases h1 with h1 | h1 | h1 <;> simp only [h1] <;> decide
 ·exact yn (Yw h89.2 (by omega) _ _ (by omega)) fun r103 h103=>eJ9 hv h21 hl (by omega) h103.2 ⟨by have:=h103.1; unfold atB; simp only; omega,by simp only; omega,by simp only; omega,by simp only; omega⟩
theorem eJ6 {c44:Bs} (h44:c44.length≤100) {l45:List Bs} (h45:l45.length≤1000∧∀ x,x∈l45→x.length≤100) {c76:Int} {c d} (hs:SB K ⟨c,d⟩) (hk:K≤90000):Ok (Yl v5 l8 r21 r25 c44 l45 c d c76) (ER (K+5) v5 n R):=by
 unfold Yl
 refine wt (fun _=>wt (fun _=>eJ2 hv h21 hl (by omega) hs) (fun h0 => ?_)) (fun _ => ?_)
 ·have h0:0 < l45.length:=by simp at h0; cases hq:l45 with | nil=>exact absurd hq h0 | cons _ _=>simp
  refine yn (Yx hs (by omega) _ (by omega)) fun r79 h79 => ?_
  obtain ⟨y,h1,h2,_⟩:=Wr l45 r79.1 ⟨h79.1.1,h79.1.2.1 (by omega)⟩
  rw [h1]
  simp only [Option.bind_some]
  exact z7n (eJ8 (K:=K+1) (n:=n) (R:=R) hv h21 hl h25 h44 h79.2 (by omega) (h45.2 y h2)) fun q hq=>by rw [show K+5=K+1+4 by omega]; exact hq
 ·exact z7n (eJ8 (K:=K+1) (n:=n) (R:=R) hv h21 hl h25 h44 (hs.mono (by omega)) (by omega) (by simp)) fun q hq=>by rw [show K+5=K+1+4 by omega]; exact hq
theorem eJ7 {v2:zx} (hc:CS v2) {r27:Int×zt} {c44:Bs} (h44:c44.length≤100) {l45:List Bs} (h45:l45.length≤1000∧∀ x,x∈l45→x.length≤100) {v57:Bool} {c d} (hs:SB K ⟨c,d⟩) (hk:K≤80000):Ok (z01 v2 v5 l8 r21 r25 r27 c44 l45 v57 c d) (ER (K+6) v5 n R):=by
 unfold z01
 have hfin:∀ {c76:Int} {c d},SB (K+1) ⟨c,d⟩→Ok (Yl v5 l8 r21 r25 c44 l45 c d c76) (ER (K+6) v5 n R):=fun hs=>z7n (eJ6 (K:=K+1) (n:=n) (R:=R) hv h21 hl h25 h44 h45 hs (by omega)) fun q hq=>by rw [show K+6=K+1+5 by omega]; exact hq
 have b1:=hl.1
 have b2:=hl.2.1
 refine wt (fun _ => ?_) (fun _=>hfin (hs.mono (by omega)))
 refine yn (x8r v2 (by have:=hc.nl; omega) l8 (by omega) _ _) fun r61 h61 => ?_
 obtain ⟨y,hy,_⟩:=x3b r61.1 h61.1 (by have:=h61.2; omega)
 rw [hy]
 simp only [Option.bind_some]
 refine wt (fun _ => ?_) (fun _=>wt (fun _ => ?_) (fun _=>wt (fun _ => ?_) (fun _=>hfin (hs.mono (by omega)))))
 all_goals exact yn (xt hs (by omega) _ ⟨by simp,by simp⟩) fun r66 h66=>hfin h66.2
theorem eJ3 {v2:zx} (hc:CS v2) {r27:Int×zt} {c44:Bs} (h44:c44.length≤100) {c d} (hs:SB K ⟨c,d⟩) (hk:K≤70000):Ok (z02 v2 v5 l8 r21 r25 r27 c d c44) (ER (K+7) v5 n R):=by
 unfold z02
 have hn:=hc.nl
 refine ok_g (by omega) ?_
 refine z4f (fun (j:Nat) (q:List Bs)=>q.length≤j∧∀ x,x∈q→x.length≤100) _ 0 _ ⟨by simp,by simp⟩ ?_ ?_
 ·rintro j x q _ hx ⟨q1,q2⟩
  have hj:j < v2.Plans.length:=by have:=jg hx; omega
  unfold y3o z5u
  refine wt (fun _=>ok_g (by omega) (qo ⟨by simp; omega,fun y hy => ?_⟩)) (fun _=>qo ⟨by omega,q2⟩)
  rcases List.mem_append.1 hy with hy | hy
  ·exact q2 y hy
  ·rw [List.mem_singleton.1 hy]; exact (hc.kl x (List.mem_of_getElem? hx)).1
 ·rintro q ⟨q1,q2⟩
  unfold y3q
  have h45:q.length≤1000∧∀ x,x∈q→x.length≤100:=⟨by omega,q2⟩
  have hfin:∀ {v:Bool} {c d},SB (K+1) ⟨c,d⟩→Ok (z01 v2 v5 l8 r21 r25 r27 c44 q v c d) (ER (K+7) v5 n R):=fun hs=>z7n (eJ7 (K:=K+1) (n:=n) (R:=R) hv h21 hl h25 hc h44 h45 hs (by omega)) fun q hq=>by rw [show K+7=K+1+6 by omega]; exact hq
  refine yn (xf hs (by omega) _ (by omega)) fun r50 h50=>wt (fun _ => ?_) (fun _=>hfin h50)
  rw [y86 v2 hc.cb]
  exact hfin h50
end
theorem x8y (l r:List zk) (p:zk→zk→Option Int) (h:l.length≤19) (hr:gIns l 0 (l.length:Int) p=some r) (hl:r.length=l.length):z4h l p=some r:=by
 unfold z4h
 have e:y2e l (l.length:Int) p=some r:=w4v l r _ h hr hl
 rw [e]
 simp only [Option.bind_some]
 rw [if_pos hl]
theorem w5v {k:Int} {s:zt} (h:SB k s) (hk:k≤10000) {c:zx} (hc:CS c) {apps:List zy} (ha:apps.length≤10∧∀ x,x∈apps→x.Key.length≤100∧x.Owner.length≤100) {n:Int} (hn:0≤n∧n≤19) :
  Ok (z8w s c apps n) fun r=>((r.1.length:Int)≤n∧∀ x,x∈r.1→EB x)∧SB (k+400) r.2:=by
 unfold z8w
 refine ok_g (by omega) ?_
 refine z7m (fun (j:Nat) (q:Int×(List Int)×Int×(List zk))=>SB (k+20 * (j:Int)) ⟨q.2.1,q.2.2.1⟩∧(0≤q.1∧q.1≤2592000000 * (j:Int))∧q.2.2.2.length≤j∧∀ x,x∈q.2.2.2→EB x) _ 0 _ ⟨by simpa using h,by simp,by simp,by simp⟩ ?_ ?_
 ·rintro j ⟨v5,c6,c7,l8⟩ _ hj ⟨q1,q2,q3,q4⟩
  simp only at q1 q2 q3 q4
  have hj:j < 19:=by omega
  unfold y3p
  simp only
  refine yn (xt q1 (by omega) _ ⟨by simp,by simp⟩) fun r21 h21=>yn (ud h21.2 (by omega) _ ⟨by simp,by simp⟩) fun r23 h23=>yn (ud h23.2 (by omega) _ ⟨by simp,by simp⟩) fun r25 h25=>yn (y1q h25.2 (by omega) _ _ (by omega)) fun r27 h27 => ?_
  have b21:0≤r21.1∧r21.1≤2592000000:=by
   have h1:=h21.1
   have h2:=Int.tmod_nonneg 2592000000 q2.1
   have h3:=Int.tmod_lt_of_pos v5 (show (0:Int) < 2592000000 by omega)
   rw [wi (n:=2592000000 - v5.tmod 2592000000) (by omega)] at h1
   simp only [List.mem_cons,List.not_mem_nil,or_false] at h1
   omega
  have b23:r23.1.length≤100:=by
   have h1:=h23.1
   simp only [List.mem_cons,List.not_mem_nil,or_false] at h1
   rcases h1 with h1 | h1 | h1 <;> rw [h1] <;> decide
  have b25:r25.1.length≤100:=by
   have h1:=h25.1
   simp only [List.mem_cons,List.not_mem_nil,or_false] at h1
   rcases h1 with h1 | h1 | h1 <;> rw [h1] <;> decide
  have hfin:∀ {a:Bs} {c1 d1},a.length≤100→SB (k+20 * (j:Int)+6) ⟨c1,d1⟩→Ok (z02 c v5 l8 r21 r25 r27 c1 d1 a) (rd (fun (q:Int×(List Int)×Int×(List zk))=>SB (k+20 * ((j+1:Nat):Int)) ⟨q.2.1,q.2.2.1⟩∧(0≤q.1∧q.1≤2592000000 * ((j+1:Nat):Int))∧q.2.2.2.length≤j+1∧∀ x,x∈q.2.2.2→EB x) fun r=>((r.1.length:Int)≤n∧∀ x,x∈r.1→EB x)∧SB (k+400) r.2):=fun ha hs=>z7n (eJ3 (K:=k+20 * (j:Int)+6) (n:=j) (R:=fun r=>((r.1.length:Int)≤n∧∀ x,x∈r.1→EB x)∧SB (k+400) r.2) (by omega) b21 ⟨q3,by omega,q4⟩ b25 hc ha hs (by omega)) fun q hq=>by
   cases q with
   | inl q=>exact ⟨hq.1.mono (by omega),⟨hq.2.1.1,by have:=hq.2.1.2; omega⟩,hq.2.2.1,hq.2.2.2⟩
   | inr q=>exact hq
  unfold z5t
  refine wt (fun hp=>yn (xf h27.2 (by omega) _ (by omega)) fun r31 h31=>wt (fun _ => ?_) (fun _=>hfin b23 (h31.mono (by omega)))) (fun _ => ?_)
  ·have hp:0 < apps.length:=by simpa using hp
   refine yn (Yx h31 (by omega) _ (by omega)) fun r38 h38 => ?_
   obtain ⟨y,h1,h2,_⟩:=Wr apps r38.1 ⟨h38.1.1,h38.1.2.1 (by omega)⟩
   rw [h1]
   simp only [Option.bind_some]
   exact hfin (ha.2 y h2).1 (h38.2.mono (by omega))
  ·rw [if_neg (by decide)]
   exact hfin b23 (h27.2.mono (by omega))
 ·rintro ⟨v5,c6,c7,l8⟩ ⟨q1,q2,q3,q4⟩
  simp only at q1 q2 q3 q4
  have hn8:(l8.length:Int)≤n:=by omega
  have hl:l8.length≤19:=by omega
  unfold y3r
  obtain ⟨r,p1,p2,_⟩:=w43 (p:=fun a0 a1=>Yy a0 a1) (q:=fun a0 a1=>Yy a0 a1) (f:=id) l8 (by omega) (List.pairwise_iff_getElem.2 fun i j hi hj _=>⟨_,_,y16 _ _ (q4 _ (List.getElem_mem hj)).t (q4 _ (List.getElem_mem hi)).t,y16 _ _ (q4 _ (List.getElem_mem hj)).t (q4 _ (List.getElem_mem hi)).t,Iff.rfl⟩)
  have e1:z4h l8 (fun (a0:zk) (a1:zk)=>Yy a0 a1)=some r:=x8y l8 r _ hl p2 p1.length_eq
  rw [e1]
  simp only [Option.bind_some]
  rw [if_pos p1.length_eq]
  have hr:∀ x,x∈r→EB x:=fun x hx=>q4 x (p1.mem_iff.1 hx)
  have hrl:(r.length:Int)≤n:=by rw [p1.length_eq]; exact hn8
  refine yn (xf q1 (by omega) _ (by omega)) fun r15 h15=>wt (fun _=>qo ⟨⟨hrl,hr⟩,h15.mono (by omega)⟩) (fun _ => ?_)
  refine yn (w47 (zk.mk 0 [] [] 0 []) r _ (by omega) fun x y hx hy=>⟨_,by unfold z8v; rw [y16 x y (hr x hx).t (hr y hy).t]; rfl⟩) fun r18 h18=>qo ⟨⟨by have:=h18.1; simp only; omega,fun x hx=>hr x (h18.2 x hx)⟩,h15.mono (by omega)⟩
end Go.Proofs.YtnnfdgngnoamoaaGreatDoor
