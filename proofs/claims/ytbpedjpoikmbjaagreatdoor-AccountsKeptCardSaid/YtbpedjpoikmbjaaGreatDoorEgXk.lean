import Derived.Test.YtbpedjpoikmbjaaGreatDoorCpXk
namespace Go.Proofs.YtbpedjpoikmbjaaGreatDoor
noncomputable section
set_option linter.unusedVariables false
set_option maxRecDepth 20000
def TC:List yu->Prop
 | []=>True
 | t::l=>((1<=t.From/\t.From<=1000000000000)/\0<=t.Cents/\t.Cents<=1000000)/\(∀ u,l[0]?=some u->t.From < u.From)/\TC l
theorem z00 {n lo hi:Int} (h:outP n lo hi=false):lo<=n/\n<=hi:=by
 unfold outP at h;simp at h;omega
theorem x3i {l:List yu} {k:Nat} {x:yu} (h:t1 l k x=0):((1<=x.From/\x.From<=1000000000000)/\0<=x.Cents/\x.Cents<=1000000)/\Yv l k x=false:=by
 unfold t1 at h;rcases Bool.eq_false_or_eq_true (outP x.From 1 1000000000000) with h1|h1 <;> rcases Bool.eq_false_or_eq_true (outP x.Cents 0 1000000) with h2|h2 <;> rcases Bool.eq_false_or_eq_true (Yv l k x) with h3|h3 <;> simp [h1,h2,h3] at h;exact⟨⟨z00 h1,z00 h2⟩,h3⟩
theorem x2w {l:List yu} (h:tsF l=0):l.length<=20/\∀ k x,l[k]?=some x->t1 l k x=0:=by
 unfold tsF at h
 by_cases h1:20 < l.length
 ·rw [if_pos h1] at h;omega
 ·rw [if_neg h1] at h
  by_cases h2:feI (t1 l) 0 l≠0
  ·rw [if_pos h2] at h;exact absurd h h2
  ·refine⟨by omega,λk x hx=>?_⟩;have:=z7j l 0 (by simpa using h2) k x hx;simpa using this
theorem x2z {xs:List yu} (h:∀ k x,xs[k]?=some x->t1 xs k x=0):∀ (l:List yu) (k:Nat),(∀ j,l[j]?=xs[k+j]?)->TC l
 | [],_,_=>trivial
 | t::l,k,hl=>by
  have h0:xs[k]?=some t:=by have:=hl 0;simpa using this.symm
  refine⟨(x3i (h k t h0)).1,λu hu=>?_,x2z h l (k+1) λj=>?_⟩
  ·have h1:xs[k+1]?=some u:=by have:=hl 1;rw [← this];simpa using hu
   have h2:=(x3i (h (k+1) u h1)).2;simp [Yv,h0] at h2;exact h2
  ·have:=hl (j+1);rw [List.getElem?_cons_succ] at this;rw [this];congr 1;omega
theorem x2x {l:List yu} (h:tsF l=0):TC l/\l.length<=20:=⟨x2z (x2w h).2 l 0 λj=>by simp,(x2w h).1⟩
def endT (l:List yu) (a:Int):Int:=match l[0]? with|some u=>min a (u.From-1)|none=>a
def prS:List yu->Int->Int
 | [],_=>0
 | t::l,a=>max 0 (endT l a-t.From+1)*t.Cents+prS l a
theorem y3n {p c:Int} (hp:0<=p) (hc:0<=c/\c<=1000000):0<=p*c/\p*c<=p*1000000:=⟨Int.mul_nonneg hp hc.1,Int.mul_le_mul_of_nonneg_left hc.2 hp⟩
theorem x0n (l:List yu) (a:Int):endT l a<=a:=by
 unfold endT;split <;> omega
theorem y5n (t:yu) (l:List yu) (a:Int):endT (t::l) a=min a (t.From-1):=rfl
theorem x7b {t:yu} {l:List yu} (h:∀ u,l[0]?=some u->t.From < u.From) (a:Int):endT (t::l) a<=endT l a/\(endT l a < t.From->endT l a=a):=by
 rw [y5n];unfold endT
 cases hq:l[0]? with
 | none=>exact⟨by simp only;omega,λ_=>rfl⟩
 | some u=>have:=h u hq;exact⟨by simp only;omega,λh2=>by simp only at h2 ⊢;omega⟩
theorem y25:∀ (l:List yu) (a:Int),TC l->0<=prS l a/\prS l a<=(a-endT l a)*1000000
 | [],a,_=>by simp [prS,endT]
 | t::l,a,h=>by
  obtain⟨h1,h2,h3⟩:=h;obtain⟨q1,q2⟩:=y25 l a h3;obtain⟨e1,e2⟩:=x7b h2 a;have e3:=x0n l a;rw [y5n] at *
  have hm:=y3n (p:=max 0 (endT l a-t.From+1)) (by omega) h1.2;show 0<=max 0 (endT l a-t.From+1)*t.Cents+prS l a/\max 0 (endT l a-t.From+1)*t.Cents+prS l a<=_;generalize max 0 (endT l a-t.From+1)*t.Cents=z at hm ⊢;omega
theorem x0m:∀ (l:List yu) (a:Int),TC l->0<=a->0<=endT l a
 | [],a,_,h=>h
 | t::l,a,h,ha=>by rw [y5n];have:=h.1.1;omega
theorem y77 (l:List yu) (a:Int) (h:TC l) (ha:0<=a/\a<=1000000000000):0<=prS l a/\prS l a<=1000000000000000000:=by
 have h1:=y25 l a h;have h2:=x0m l a h ha.1;omega
structure PG (p:yd):Prop where
 key:keyP p.Key=true
 base:0<=p.Base/\p.Base<=1000000000000
 free:0<=p.Free/\p.Free<=1000000000000
 tc:TC p.Tiers
 len:p.Tiers.length<=20
theorem w2f {c:zw} {p:yd} (h:gL c p false=0):PG p:=by
 unfold gL at h;cases hk:keyP p.Key
 ·rw [hk] at h;simp at h
 ·rw [hk] at h;simp only [Bool.true_eq_false,if_false,Bool.false_eq_true] at h;unfold plF at h;rcases Bool.eq_false_or_eq_true (hasP c p.Product) with h1|h1
  ·rcases Bool.eq_false_or_eq_true (outP p.Base 0 1000000000000) with h2|h2
   ·simp [h1,h2] at h
   ·rcases Bool.eq_false_or_eq_true (outP p.Free 0 1000000000000) with h3|h3
    ·simp [h1,h2,h3] at h
    ·by_cases h4:tsF p.Tiers=0
     ·exact⟨hk,z00 h2,z00 h3,(x2x h4).1,(x2x h4).2⟩
     ·simp [h1,h2,h3,h4] at h
  ·simp [h1] at h
theorem Wy {c:zw} (h:catF c=0):(kr yl.Key c.Products/\kr yd.Key c.Plans)/\∀ p,p∈c.Plans->PG p:=by
 unfold catF at h
 by_cases h1:pdF c.Products≠0
 ·rw [if_pos h1] at h;exact absurd h h1
 ·rw [if_neg h1] at h
  by_cases h2:100 < c.Plans.length
  ·rw [if_pos h2] at h;omega
  ·rw [if_neg h2] at h;obtain⟨⟨h3,h4⟩,_⟩:=y5q (w7f c) c.Plans [] h;exact⟨⟨x4z (by simpa using h1),h3⟩,λp hp=>w2f (h4 p hp)⟩
def Yc (p:yd) (calls:Int):Int:=prS p.Tiers (max 0 (calls-p.Free)) / 1000
theorem x23:∀ (l:List yu) (n:Nat),TC l->TC (l.drop n)
 | l,0,h=>by simpa using h
 | [],n+1,h=>by simp [TC]
 | t::l,n+1,h=>x23 l n h.2.2
section
variable {p:yd} (hg:PG p) {calls:Int} (hc:0<=calls/\calls<=1000000000000)
include hg hc
theorem y1u:max 0 (wr (calls-p.Free))=max 0 (calls-p.Free)/\(0<=max 0 (calls-p.Free)/\max 0 (calls-p.Free)<=1000000000000):=by
 have:=hg.free;rw [wb (by omega)];exact⟨rfl,by omega⟩
theorem x4s:∀ (l:List yu) (k:Nat) (sum:Int),(∀ j,l[j]?=p.Tiers[k+j]?)->TC l->0<=sum->sum+prS l (max 0 (calls-p.Free))<=1000000000000000000->forL (λ(k:Nat) (x:yu) (s:Int)=>z2h p calls k x s) (λ(s:Int)=>z4z s) k l sum=some ((sum+prS l (max 0 (calls-p.Free))) / 1000)
 | [],k,sum,hl,ht,h0,h1=>by
  simp only [prS] at h1 ⊢;show z4z sum=_;unfold z4z;rw [if_pos (by omega)];simp
 | x::l,k,sum,hl,ht,h0,h1=>by
  obtain⟨a1,a2⟩:=y1u hg hc;obtain⟨t1,t2,t3⟩:=ht;have hk:=hg.len
  have e0:z2h p calls k x sum=some (.inl (sum+max 0 (endT l (max 0 (calls-p.Free))-x.From+1)*x.Cents)):=by
   have hJ:∀ tt,tt=endT l (max 0 (calls-p.Free))->z2i sum x tt=some (.inl (sum+max 0 (endT l (max 0 (calls-p.Free))-x.From+1)*x.Cents)):=by
    intro tt hto;subst hto;unfold z2i;have b1:=x0n l (max 0 (calls-p.Free));have b2:=x0m l (max 0 (calls-p.Free)) t3 a2.1;have b3:=y25 l (max 0 (calls-p.Free)) t3;simp only [prS] at h1;have hm:=y3n (p:=max 0 (endT l (max 0 (calls-p.Free))-x.From+1)) (by omega) t1.2;rw [wb (n:=endT l (max 0 (calls-p.Free))-x.From) (by omega),wb (n:=endT l (max 0 (calls-p.Free))-x.From+1) (by omega)];generalize max 0 (endT l (max 0 (calls-p.Free))-x.From+1)*x.Cents=z at hm h1 ⊢;rw [wb (n:=z) (by omega),wb (by omega)]
   unfold z2h;rw [a1];have hn:l[0]?=p.Tiers[k+1]?:=by have:=hl 1;simpa using this
   by_cases hq:k+1 < p.Tiers.length
   ·rw [if_pos (by simp;omega)];obtain⟨u,hu⟩:∃ u,p.Tiers[k+1]?=some u:=⟨_,List.getElem?_eq_getElem hq⟩
    rw [hu];refine hJ _ ?_;rw [hu] at hn
    have hu':1<=u.From/\u.From<=1000000000000:=by
     cases l with
     | nil=>simp at hn
     | cons y l=>simp at hn;subst hn;exact t3.1.1
    rw [wb (by omega)];unfold endT;rw [hn]
   ·rw [if_neg (by simp;omega)];refine hJ _ ?_;have:p.Tiers[k+1]?=none:=List.getElem?_eq_none (by omega);rw [this] at hn;unfold endT;rw [hn]
  show (z2h p calls k x sum).bind _=_;rw [e0];have hm:=y3n (p:=max 0 (endT l (max 0 (calls-p.Free))-x.From+1)) (by omega) t1.2;simp only [Option.bind_some,after];have e9:sum+prS (x::l) (max 0 (calls-p.Free))=sum+max 0 (endT l (max 0 (calls-p.Free))-x.From+1)*x.Cents+prS l (max 0 (calls-p.Free)):=by simp only [prS];omega
  rw [e9] at h1 ⊢;refine x4s l (k+1) _ (λj=>?_) t3 (by omega) h1;have:=hl (j+1);rw [List.getElem?_cons_succ] at this;rw [this];congr 1;omega
theorem x4t:z5k p calls=some (Yc p calls):=by
 unfold z5k;have hk:=hg.len;have h1:=y77 _ _ hg.tc (y1u hg hc).2;rw [if_pos (by omega),x4s hg hc p.Tiers 0 0 (λj=>by simp) hg.tc (by omega) (by omega)];simp [Yc]
theorem x4r:∀ (n:Nat),n<=p.Tiers.length->back (λ(k:Nat) (x:yu) (s:Int×Int)=>z3n k x s.1 s.2) (λ(s:Int×Int)=>z6r s.1 s.2) p.Tiers n (endT (p.Tiers.drop n) (max 0 (calls-p.Free)),prS (p.Tiers.drop n) (max 0 (calls-p.Free)))=some (Yc p calls)
 | 0,_=>by
  have h1:=y77 _ _ hg.tc (y1u hg hc).2;show z6r (endT (p.Tiers.drop 0) (max 0 (calls-p.Free))) (prS (p.Tiers.drop 0) (max 0 (calls-p.Free)))=_;unfold z6r;simp only [List.drop_zero];rw [if_pos (by omega)];rfl
 | n+1,hn=>by
  have ih:=x4r n (by omega);obtain⟨a1,a2⟩:=y1u hg hc;have hx:p.Tiers[n]?=some p.Tiers[n]:=List.getElem?_eq_getElem (by omega);have hd:p.Tiers.drop n=p.Tiers[n]::p.Tiers.drop (n+1):=List.drop_eq_getElem_cons (by omega);have ht:=x23 p.Tiers n hg.tc;have hmx:=y77 _ _ ht a2;rw [hd] at ih ht hmx;generalize p.Tiers[n]=x at hx ih ht hmx;generalize hl:p.Tiers.drop (n+1)=l at ih ht hmx ⊢;obtain⟨t1,t2,t3⟩:=ht;obtain⟨e1,e2⟩:=x7b t2 (max 0 (calls-p.Free));have b1:=x0n l (max 0 (calls-p.Free));have b2:=x0m l (max 0 (calls-p.Free)) t3 a2.1;have b3:=y25 l (max 0 (calls-p.Free)) t3;rw [y5n] at ih e1;simp only [prS] at ih hmx;have hm:=y3n (p:=max 0 (endT l (max 0 (calls-p.Free))-x.From+1)) (by omega) t1.2;show (p.Tiers[n]?).bind _=_;rw [hx]
  have e0:z3n n x (endT l (max 0 (calls-p.Free))) (prS l (max 0 (calls-p.Free)))=some (.inl (min (max 0 (calls-p.Free)) (x.From-1),max 0 (endT l (max 0 (calls-p.Free))-x.From+1)*x.Cents+prS l (max 0 (calls-p.Free)))):=by
   unfold z3n
   by_cases hq:x.From<=endT l (max 0 (calls-p.Free))
   ·rw [if_pos (by simpa using hq)];have e3:max 0 (endT l (max 0 (calls-p.Free))-x.From+1)=endT l (max 0 (calls-p.Free))-x.From+1:=by omega
    have e4:min (max 0 (calls-p.Free)) (x.From-1)=x.From-1:=by omega
    rw [e3] at hm hmx;rw [e3,e4,wb (n:=x.From-1) (by omega),wb (n:=endT l (max 0 (calls-p.Free))-x.From) (by omega),wb (n:=endT l (max 0 (calls-p.Free))-x.From+1) (by omega)];generalize (endT l (max 0 (calls-p.Free))-x.From+1)*x.Cents=z at hm hmx ⊢;rw [wb (n:=z) (by omega),wb (by omega),Int.add_comm]
   ·rw [if_neg (by simpa using hq)];have e3:max 0 (endT l (max 0 (calls-p.Free))-x.From+1)=0:=by omega
    have e4:=e2 (by omega);have e5:min (max 0 (calls-p.Free)) (x.From-1)=endT l (max 0 (calls-p.Free)):=by omega
    rw [e3,e5];simp
  simp only [Option.bind_some];show (z3n n x (endT l (max 0 (calls-p.Free))) (prS l (max 0 (calls-p.Free)))).bind _=_;rw [e0];exact ih
theorem w2a:z98 p calls=some (Yc p calls):=by
 unfold z98;have hk:=hg.len;have h:=x4r hg hc p.Tiers.length (Nat.le_refl _);rw [if_pos (by omega),(y1u hg hc).1];rw [List.drop_length] at h;exact h
end
def hasL (c:zw) (key:Bs):Bool:=c.Plans.any λx=>decide (x.Key=key)
def ixL (c:zw) (key:Bs):Int:=fdx (λx:yd=>decide (x.Key=key)) 0 c.Plans
def w2c:yd:=yd.mk [] [] 0 0 [] 0 0 false
theorem z5d (c:zw) (key:Bs) (hl:c.Plans.length<=100000) (hr:kr yd.Key c.Plans):(hasL c key=false/\ixL c key < 0/\Yu c key=some (w2c,false))∨(hasL c key=true/\0<=ixL c key/\∃ x,at? c.Plans (ixL c key)=some x/\x∈c.Plans/\x.Key=key/\Yu c key=some (x,true)):=by
 obtain⟨r,h1,h2,h3⟩:=y98 yd.Key c.Plans key (p:=λ(a0:yd) (a1:Bs)=>z5l a0 a1) (by omega) (λx _=>rfl) hr;have h1':y31 c.Plans key (λ(a0:yd) (a1:Bs)=>z5l a0 a1)=some r:=h1;unfold Yu;rw [h1'];simp only [Option.bind_some];have hn:decide (ixL c key < 0) = !hasL c key:=z1i (λx:yd=>decide (x.Key=key)) c.Plans;cases hq:hasL c key
 ·left;have hq':(c.Plans.any λx=>decide (x.Key=key))=false:=hq;rw [hq'] at h2;rw [hq] at hn;rw [h2];exact⟨rfl,by simpa using hn,rfl⟩
 ·right;have hq':(c.Plans.any λx=>decide (x.Key=key))=true:=hq;obtain⟨h4,x,h5,h6,h7⟩:=y5g _ _ hq';rw [hq'] at h2;have e1:=h3 h2;rw [h2,e1,h5];exact⟨rfl,h4,x,h5,List.mem_of_getElem? h6,by simpa using h7,rfl⟩
theorem w19 (c:zw) (hb:CB c) (key:Bs) (calls:Int):z9x c key calls=some (if catF c≠0 then (0,catF c) else match at? c.Plans (ixL c key) with|none=>(0,8)|some x=>if outP calls 0 1000000000000=true then (0,1) else (Yc x calls,0)):=by
 unfold z9x;rw [x02 c hb];simp only [Option.bind_some]
 by_cases h1:catF c=0
 ·obtain⟨⟨hp,hl⟩,hg⟩:=Wy h1;rw [if_neg (by simpa using h1),if_neg (by simpa using h1)];rcases z5d c key hb.nl hl with ⟨h2,h3,h4⟩|⟨h2,h3,x,h5,h6,_,h4⟩
  ·rw [h4];have:at? c.Plans (ixL c key)=none:=by unfold at?;rw [if_neg (by omega)]
   rw [this];rfl
  ·rw [h4,h5];simp only [Option.bind_some,z0z,Bool.not_true,Bool.false_eq_true,if_false]
   by_cases h7:outP calls 0 1000000000000=true
   ·rw [if_pos h7,if_pos h7]
   ·rw [if_neg h7,if_neg h7,x4t (hg x h6) (z00 (by simpa using h7))];rfl
 ·rw [if_pos (by simpa using h1),if_pos h1]
theorem w18:y0m=some true:=by
 unfold y0m;rw [w19 _ ⟨by decide,by simp [Sh],by decide,by simp⟩];decide +kernel
theorem w1c {α:Type} {l:List α} {i:Nat} {y x:α} (h:x∈l.set i y):x∈l∨x=y:=List.mem_or_eq_of_mem_set h
structure CS (c:zw):Prop where
 np:c.Products.length<=10
 kp:∀ x,x∈c.Products->x.Key.length<=100/\Sh x.Scopes
 nl:c.Plans.length<=10
 kl:∀ x,x∈c.Plans->x.Key.length<=100/\x.Tiers.length<=10
theorem CS.cb {c:zw} (h:CS c):CB c:=⟨by have:=h.np;omega,λx hx=>by have:=h.kp x hx;exact⟨by omega,this.2⟩,by have:=h.nl;omega,λx hx=>by have:=h.kl x hx;omega⟩
theorem w1y {k:Int} {s:zq} (h:SB k s) (hk:k<=100000):Ok (z24 s) λr=>(r.1.Products.length=2/\(∀ x,x∈r.1.Products->x.Key.length<=100/\Sh x.Scopes)/\r.1.Plans.length<=4/\∀ x,x∈r.1.Plans->x.Key.length<=100/\x.Tiers.length<=3)/\SB (k+100) r.2:=by
 unfold z24;refine ym (x4g h (by omega)) λr2 h2=>ok_g (by decide) ?_;refine z5g (λ(j:Nat) (q:(List yd)×(List Int)×Int)=>SB (k+5+20*(j:Int)) ⟨q.2.1,q.2.2⟩/\q.1.length<=j/\∀ x,x∈q.1->x.Key.length<=100/\x.Tiers.length<=3) _ 0 _ ⟨by simpa using h2.2,by simp,by simp⟩ ?_ ?_
 ·rintro j x ⟨l,c,d⟩ _ hx ⟨q1,q2,q3⟩;simp only at q1 q2 q3;have hj:j < 4:=by have:=ji hx;simp at this;omega
  have hx:x.length<=100:=by
   have h1:=List.mem_of_getElem? hx;simp only [List.mem_cons,List.not_mem_nil,or_false] at h1;rcases h1 with h1|h1|h1|h1 <;> rw [h1] <;> decide
  unfold z69 Qo;refine ym (xi q1 (by omega) _ (by omega)) λr13 h13=>wv (λ_=>?_) (λ_=>?_)
  ·exact qt ⟨h13.mono (by omega),by simp only;omega,q3⟩
  ·refine ym (kj h13 (by omega) _ ⟨by simp,by simp⟩) λr16 h16=>ym (kw h16.2 (by omega) _ ⟨by simp,by simp⟩) λr18 h18=>ym (kw h18.2 (by omega) _ ⟨by simp,by simp⟩) λr20 h20=>ym (kw h20.2 (by omega) _ ⟨by simp,by simp⟩) λr22 h22=>ym (kw h22.2 (by omega) _ ⟨by simp,by simp⟩) λr24 h24=>ym (xi h24.2 (by omega) _ (by omega)) λr26 h26=>ym (kw h26 (by omega) _ ⟨by simp,by simp⟩) λr28 h28=>?_
   have h3:0<=r28.1/\r28.1<=3:=by
    have h1:=h28.1;simp only [List.mem_cons,List.not_mem_nil,or_false] at h1;omega
   refine ok_g (by omega) ?_;refine z5f (λ(i:Nat) (q:Int×(List yu)×(List Int)×Int)=>SB (k+5+20*(j:Int)+8+2*(i:Int)) ⟨q.2.2.1,q.2.2.2⟩/\q.2.1.length<=i) _ 0 _ ⟨h28.2.mono (by simp;omega),by simp⟩ ?_ ?_
   ·rintro i ⟨v,t,c,d⟩ _ hi ⟨p1,p2⟩;simp only at p1 p2;unfold z68;refine ym (kw p1 (by omega) _ ⟨by simp,by simp⟩) λr39 h39=>ok_g (by simp only;omega) (ym (kw h39.2 (by omega) _ ⟨by simp,by simp⟩) λr42 h42=>qt ⟨h42.2.mono (by omega),by simp;omega⟩)
   ·rintro⟨v,t,c,d⟩ ⟨p1,p2⟩;simp only at p1 p2;unfold z7a Qo;refine ok_g (by simp only;omega) (qt ⟨p1.mono (by omega),by simp;omega,λy hy=>?_⟩);rcases List.mem_append.1 hy with hy|hy
    ·exact q3 y hy
    ·simp only [List.mem_singleton] at hy;subst hy;exact⟨hx,by simp only;omega⟩
 ·rintro⟨l,c,d⟩ ⟨q1,q2,q3⟩;simp only at q1 q2 q3;unfold z7b;refine qt ⟨⟨rfl,λx hx=>?_,by simpa using q2,q3⟩,q1.mono (by simp;omega)⟩;simp only [List.mem_cons,List.not_mem_nil,or_false] at hx;rcases hx with hx|hx <;> subst hx
  ·exact⟨by simp,by have:=h2.1.1;simp only;omega,λy hy=>by have:=h2.1.2 y hy;omega⟩
  ·exact⟨by simp,by simp,λy hy=>by simp only [List.mem_singleton] at hy;subst hy;decide⟩
theorem w8y {k:Int} {s:zq} (h:SB k s) (hk:k<=10000):Ok (y0k s) λr=>CS r.1/\SB (k+200) r.2:=by
 unfold y0k;refine ym (w1y h (by omega)) λr2 h2=>?_;obtain⟨⟨c1,c2,c3,c4⟩,hs⟩:=h2;have hc:CS r2.1:=⟨by omega,c2,by omega,λx hx=>by have:=c4 x hx;omega⟩
 refine wv (λhpos=>?_) (λ_=>qt ⟨hc,hs.mono (by omega)⟩);have hpos:0 < r2.1.Plans.length:=by simpa using hpos
 refine ym (xi hs (by omega) _ (by omega)) λr6 h6=>wv (λ_=>?_) (λ_=>qt ⟨hc,h6.mono (by omega)⟩);unfold y48;refine ym (Ys h6 (by omega) _ (by omega)) λr13 h13=>?_;have b1:=h13.1.1;have b2:=h13.1.2.1 (by omega)
 have hat:Ok (at? r2.1.Plans r13.1) λx=>x∈r2.1.Plans:=by
  unfold at?;rw [if_pos b1,List.getElem?_eq_getElem (by omega)];exact⟨_,rfl,List.getElem_mem _⟩
 have hset:∀ p:yd,p.Key.length<=100->p.Tiers.length<=10->CS (zw.mk r2.1.Products (r2.1.Plans.set r13.1.toNat p)):=λp hp ht=>⟨by simp only;omega,c2,by simp;omega,λx hx=>by
  rcases w1c hx with hx|hx
  ·have:=c4 x hx;omega
  ·subst hx;exact⟨hp,ht⟩⟩
 refine ym hat λx15 h15=>ym (Ys h13.2 (by omega) _ (by omega)) λr17 h17=>?_;have hx:=c4 x15 h15;refine wv (λ_=>?_) (λ_=>wv (λ_=>?_) (λ_=>wv (λ_=>?_) (λ_=>wv (λ_=>?_) (λ_=>wv (λ_=>?_) (λ_=>?_)))))
 ·refine ym (kj h17.2 (by omega) _ ⟨by simp,by simp⟩) λr20 h20=>qt ⟨hset _ ?_ (by simp only;omega),h20.2.mono (by omega)⟩;have h1:=h20.1;simp only [List.mem_cons,List.not_mem_nil,or_false] at h1;simp only;rcases h1 with h1|h1|h1 <;> rw [h1] <;> decide
 ·exact ym (kj h17.2 (by omega) _ ⟨by simp,by simp⟩) λr20 h20=>qt ⟨hset _ (by simp only;omega) (by simp only;omega),h20.2.mono (by omega)⟩
 ·exact ym (Ye h17.2 (by omega) _ _ (by omega)) λr20 h20=>ym (Ye h20.2 (by omega) _ _ (by omega)) λr22 h22=>qt ⟨hset _ (by simp only;omega) (by simp only;omega),h22.2.mono (by omega)⟩
 ·exact ym (Ye h17.2 (by omega) _ _ (by omega)) λr20 h20=>ym (Ye h20.2 (by omega) _ _ (by omega)) λr22 h22=>ok_g (by omega) (qt ⟨hset _ (by simp only;omega) (by simp;omega),h22.2.mono (by omega)⟩)
 ·exact ym (Ye h17.2 (by omega) _ _ (by omega)) λr20 h20=>ym (Ye h20.2 (by omega) _ _ (by omega)) λr22 h22=>qt ⟨hset _ (by simp only;omega) (by simp only;omega),h22.2.mono (by omega)⟩
 ·refine ym (kj h17.2 (by omega) _ ⟨by simp,by simp⟩) λr20 h20=>ym (w1m h20.2 (by omega)) λr22 h22=>ok_g (by omega) (qt ⟨⟨by simp;omega,λx hx=>?_,by simp only;omega,λx hx=>by have:=c4 x hx;omega⟩,h22.2.mono (by omega)⟩);rcases List.mem_append.1 hx with hx|hx
  ·exact c2 x hx
  ·simp only [List.mem_singleton] at hx;subst hx;refine⟨?_,h22.1.2⟩;have h1:=h20.1;simp only [List.mem_cons,List.not_mem_nil,or_false] at h1;simp only;rcases h1 with h1|h1|h1 <;> rw [h1] <;> decide
set_option linter.unusedSimpArgs false
set_option maxRecDepth 20000
theorem w8q (x y:Int):z28 x y=some (if x < y then -1 else if y < x then 1 else 0):=by
 unfold z28 y0q;simp only [ne_eq,not_true_eq_false,decide_false,Option.bind_some,Bool.false_eq_true,if_false,decide_eq_true_eq]
 by_cases h1:x < y
 ·rw [if_pos h1,if_pos h1]
 ·rw [if_neg h1,if_neg h1]
  by_cases h2:y < x
  ·rw [if_pos h2,if_pos h2]
  ·rw [if_neg h2,if_neg h2]
theorem w8p (x y:Bs):y0r x y=some (cmpL x y):=by
 unfold y0r y0p;simp only [ne_eq,not_true_eq_false,decide_false,Option.bind_some,Bool.false_eq_true,if_false];have e1:=y86 x y;have e2:=ka x y;rcases x0z x y with h|h|h
 ·rw [e1,h];rfl
 ·have:x=y:=e2.1 h;rw [e1,h];subst this;simp
 ·have h3:x≠y:=λh4=>by have:=e2.2 h4;omega
  have h4:(x == y)=false:=by simpa using h3
  rw [e1,h,h4];rfl
def cmp2 (a b c d:Bs):Int:=if cmpL a c≠0 then cmpL a c else cmpL b d
theorem w8o (a b c d:Bs):z2r [a,b] [c,d]=some (cmp2 a b c d):=by
 unfold z2r cmp2;rw [if_pos (by simp)];simp only [forL,y2s,y2t,w8p]
 by_cases h1:cmpL a c=0
 ·by_cases h2:cmpL b d=0
  ·simp [h1,h2,after]
  ·simp [h1,h2,after]
 ·simp [h1,after]
theorem w2s (x y z:Int):Wt [x,y,z]=some (if x≠0 then x else if y≠0 then y else z):=by
 unfold Wt;rw [if_pos (by simp)];simp only [forL,y1i,y1j]
 by_cases h1:x=0
 ·by_cases h2:y=0
  ·by_cases h3:z=0
   ·simp [h1,h2,h3,after]
   ·simp [h1,h2,h3,after]
  ·simp [h1,h2,after]
 ·simp [h1,after]
def or3 (m n:Int) (a b c d:Bs):Int:=if m < n then -1 else if n < m then 1 else cmp2 a b c d
def orE (a b:zj):Int:=or3 a.At b.At a.App a.Product b.App b.Product
theorem x5b (m n:Int) (a b c d:Bs):((z28 m n).bind λr3=>(xf a c).bind λr5=>(xf b d).bind λr7=>(Wt [r3,r5,r7]).bind λr9=>some r9)=some (or3 m n a b c d):=by
 simp only [w8q,xf,Option.bind_some,w2s];congr 1;unfold or3 cmp2
 by_cases h1:m < n
 ·simp [h1]
 ·by_cases h2:n < m
  ·simp [h1,h2]
  ·simp [h1,h2]
theorem x4n (m n:Int) (a b c d:Bs) (h:-1000000000000000000<=m/\m<=1000000000000000000/\-1000000000000000000<=n/\n<=1000000000000000000):(if decide (m≠n) then ((z5u (wr (m-n))).bind λ(r4:Int)=>some r4) else ((z2r [a,b] [c,d]).bind λ(r6:Int)=>some r6))=some (or3 m n a b c d):=by
 rw [w8o];unfold z5u or3;rw [wb (by omega)]
 by_cases h1:m=n
 ·subst h1;simp
 ·simp only [ne_eq,h1,not_false_eq_true,decide_true,if_true,decide_eq_true_eq]
  by_cases h2:m < n
  ·have:m-n < 0:=by omega
   simp [h2,this]
  ·have h3:n < m:=by omega
   have h4:¬ m-n < 0:=by omega
   have h5:0 < m-n:=by omega
   simp [h2,h3,h4,h5]
theorem w8r (a b:zj):y35 a b=some (orE a b):=x5b ..
def atB (n:Int):Prop:=-1000000000000000000<=n/\n<=1000000000000000000
theorem y3l (a b:zj) (ha:atB a.At) (hb:atB b.At):Qk a b=some (orE a b):=x4n _ _ _ _ _ _ ⟨ha.1,ha.2,hb.1,hb.2⟩
structure EB (x:zj):Prop where
 t:atB x.At
 a:x.App.length<=1000000
 p:x.Product.length<=1000000
 l:x.Plan.length<=1000000
def kn (l:List zj) (k:Nat) (x:zj):Bool:=decide (0 < k) && match l[k-1]? with|some y=>decide (0<=orE y x)|none=>false
structure EG (x:zj):Prop where
 t:0<=x.At/\x.At<=345686399999
 a:keyP x.App=true
 p:keyP x.Product=true
 k:1<=x.Kind/\x.Kind<=6
 l:x.Plan.length<=40
section
variable {α β σ τ ρ ρ':Type}
theorem z1b {body:σ->Option (σ ⊕ ρ)} {s s':σ} (h:body s=some (.inl s')):iter body s=iter body s':=by
 have key:∀ r,iter body s=some r↔iter body s'=some r:=λr=>by
  rw [Wu,Wu];constructor
  ·rintro⟨n,hn⟩
   cases n with
   | zero=>cases hn
   | succ n =>
    have hn:(body s).bind (after (itN body n))=some r:=hn;rw [h] at hn;exact⟨n,hn⟩
  ·rintro⟨n,hn⟩;exact⟨n+1,by show (body s).bind (after (itN body n))=some r;rw [h];exact hn⟩
 cases h1:iter body s' with
 | some r=>exact (key r).2 h1
 | none =>
  cases h2:iter body s with
  | none=>rfl
  | some r=>rw [(key r).1 h2] at h1;cases h1
theorem ko {body:σ->Option (σ ⊕ ρ)} {s:σ} {r:ρ} (h:body s=some (.inr r)):iter body s=some r:=
 Wu.2 ⟨1,by show (body s).bind (after (itN body 0))=some r;rw [h];rfl⟩
def gJ4 (i j:Int) (l:List α) (v:Bool):Option ((Int×List α) ⊕ ((Int×List α) ⊕ List α)):=
 if v then ((at? l (wr (j-1))).bind λ(x22:α)=>(at? l j).bind λ(x24:α)=>(at? (l.set j.toNat x22) (wr (j-1))).bind λ(x26:α)=>some (.inl (wr (j-1),((l.set j.toNat x22).set ((wr (j-1)).toNat) x24)))) else (Option.map .inr (some (.inl (wr (i+1),l))))
def gL3 (a:Int) (p:α->α->Option Int) (i j:Int) (l:List α):Option ((Int×List α) ⊕ ((Int×List α) ⊕ List α)):=
 if decide (a < j) then ((at? l j).bind λ(x13:α)=>(at? l (wr (j-1))).bind λ(x15:α)=>(p x13 x15).bind λ(r17:Int)=>gJ4 i j l (decide (r17 < 0))) else (gJ4 i j l false)
def gL1 (a b:Int) (p:α->α->Option Int) (i:Int) (l:List α):Option ((Int×List α) ⊕ List α):=
 if decide (i < b) then (iter (λ(s:Int×List α)=>gL3 a p i s.1 s.2) (i,l)) else (some (.inr l))
def gIns (l:List α) (a b:Int) (p:α->α->Option Int):Option (List α):=iter (λ(s:Int×List α)=>gL1 a b p s.1 s.2) (wr (a+1),l)
theorem x71 (A C:List α) (x:α):at? (A++x::C) (A.length:Int)=some x:=by
 rw [z1s];simp
theorem x9v (A C:List α) (y x:α):((A++y::x::C).set (A.length+1) y).set A.length x=A++x::y::C:=by
 induction A with
 | nil=>rfl
 | cons a A ih=>simp only [List.cons_append,List.length_cons,List.set_cons_succ,ih]
section
variable {p:α->α->Option Int} {q:β->β->Option Int} {f:α->β}
def y4k (p:α->α->Option Int) (q:β->β->Option Int) (f:α->β) (x y:α):Prop:=∃ c d,p x y=some c/\q (f x) (f y)=some d/\(c < 0↔d < 0)
theorem y95 (i:Int) (l:List α):gL3 0 p i 0 l=some (.inr (.inl (wr (i+1),l))):=by
 unfold gL3 gJ4;simp
theorem y96 (i:Int) (A C:List α) (y x:α) {c:Int} (hA:A.length<=1000000) (hp:p x y=some c) (hc:¬ c < 0):gL3 0 p i ((A.length+1:Nat):Int) (A++y::x::C)=some (.inr (.inl (wr (i+1),A++y::x::C))):=by
 have e1:wr (((A.length+1:Nat):Int)-1)=(A.length:Int):=by rw [wb (by omega)];omega
 have e2:at? (A++y::x::C) ((A.length+1:Nat):Int)=some x:=by rw [z1s];simp
 unfold gL3 gJ4;rw [if_pos (by simp),e1,e2,x71];simp only [Option.bind_some,hp];rw [if_neg (by simpa using hc)];rfl
theorem y97 (i:Int) (A C:List α) (y x:α) {c:Int} (hA:A.length<=1000000) (hp:p x y=some c) (hc:c < 0):gL3 0 p i ((A.length+1:Nat):Int) (A++y::x::C)=some (.inl ((A.length:Int),A++x::y::C)):=by
 have e1:wr (((A.length+1:Nat):Int)-1)=(A.length:Int):=by rw [wb (by omega)];omega
 have e2:at? (A++y::x::C) ((A.length+1:Nat):Int)=some x:=by rw [z1s];simp
 unfold gL3 gJ4;rw [if_pos (by simp),e1,e2,x71];simp only [Option.bind_some,hp];rw [if_pos (by simpa using hc)];simp only [Int.toNat_natCast]
 have e3:at? ((A++y::x::C).set (A.length+1) y) (A.length:Int)=some y:=by
  rw [z1s,List.getElem?_set_ne (by omega)];simp
 rw [e3];simp only [Option.bind_some];rw [x9v]
theorem w60 (i:Int) (x:α) (C:List α):∀ (n:Nat) (A B:List α),A.length=n->n<=1000000->(∀ y,y∈A->y4k p q f x y) ->
  ∃ A' B',A'++B'=A++B/\iter (λ(s:Int×List α)=>gL3 0 p i s.1 s.2) ((n:Int),A++x::(B++C))=some (.inl (wr (i+1),A'++x::(B'++C))) /\
   iter (λ(s:Int×List β)=>gL3 0 q i s.1 s.2) ((n:Int),(A++x::(B++C)).map f)=some (.inl (wr (i+1),(A'++x::(B'++C)).map f)):=by
 intro n
 induction n with
 | zero =>
  intro A B hA _ _;exact⟨A,B,rfl,ko (y95 i _),ko (y95 i _)⟩
 | succ n ih =>
  intro A B hA hn hg
  obtain⟨A0,y,rfl⟩:∃ A0 y,A=A0++[y]:=by
   rcases List.eq_nil_or_concat A with rfl|⟨A0,y,h⟩
   ·simp at hA
   ·exact⟨A0,y,by simpa using h⟩
  have hA0:A0.length=n:=by simpa using hA
  obtain⟨c,d,h1,h2,h3⟩:=hg y (by simp);subst hA0;have e1:(A0++[y])++x::(B++C)=A0++y::x::(B++C):=by simp
  have e2:(A0++y::x::(B++C)).map f=A0.map f++f y::f x::(B++C).map f:=by simp
  have hl:A0.length=(A0.map f).length:=by simp
  by_cases hc:c < 0
  ·obtain⟨A',B',q1,q2,q3⟩:=ih A0 (y::B) rfl (by omega) (λz hz=>hg z (List.mem_append_left _ hz));refine⟨A',B',by rw [q1];simp,?_,?_⟩
   ·rw [e1];exact (z1b (y97 i A0 (B++C) y x (by omega) h1 hc)).trans q2
   ·rw [e1,e2];have h4:=y97 i (A0.map f) ((B++C).map f) (f y) (f x) (by rw [← hl];omega) h2 (h3.1 hc);rw [← hl] at h4;refine (z1b h4).trans ?_;have e3:(A0++x::(y::B++C)).map f=A0.map f++f x::f y::(B++C).map f:=by simp
    rw [← e3];exact q3
  ·refine⟨A0++[y],B,rfl,?_,?_⟩
   ·rw [e1];exact ko (y96 i A0 (B++C) y x (by omega) h1 hc)
   ·rw [e1,e2];have h4:=y96 i (A0.map f) ((B++C).map f) (f y) (f x) (by rw [← hl];omega) h2 (λh=>hc (h3.2 h));rw [← hl] at h4;exact ko h4
theorem x6q (m:Nat):∀ (rest pre:List α),pre.length+rest.length=m->m<=1000000->(∀ y x,y∈pre->x∈rest->y4k p q f x y)->rest.Pairwise (λy x=>y4k p q f x y) ->
  ∃ r,r.Perm (pre++rest)/\iter (λ(s:Int×List α)=>gL1 0 (m:Int) p s.1 s.2) ((pre.length:Int),pre++rest)=some r /\
   iter (λ(s:Int×List β)=>gL1 0 (m:Int) q s.1 s.2) ((pre.length:Int),(pre++rest).map f)=some (r.map f)
 | [],pre,hm,_,_,_=>by
  refine⟨pre++[],List.Perm.refl _,ko ?_,ko ?_⟩
  ·unfold gL1;rw [if_neg (by simp at hm;simp;omega)]
  ·unfold gL1;rw [if_neg (by simp at hm;simp;omega)]
 | x::rest,pre,hm,hb,hg,hp=>by
  simp only [List.length_cons] at hm;obtain⟨hp1,hp2⟩:=List.pairwise_cons.1 hp;obtain⟨A',B',q1,q2,q3⟩:=w60 (p:=p) (q:=q) (f:=f) (pre.length:Int) x rest pre.length pre [] rfl (by omega) (λy hy=>hg y x hy (by simp));rw [List.append_nil] at q1;rw [List.nil_append] at q2 q3;have hw:wr ((pre.length:Int)+1)=((pre.length+1:Nat):Int):=x18 (by omega)
  have hlen:(A'++x::B').length=pre.length+1:=by
   have:=congrArg List.length q1;simp at this ⊢;omega
  have hperm:(A'++x::B').Perm (x::pre):=by
   rw [← q1];exact List.perm_middle
  obtain⟨r,r1,r2,r3⟩:=x6q m rest (A'++x::B') (by rw [hlen];omega) hb (λy z hy hz=>by
   rcases List.mem_cons.1 (hperm.mem_iff.1 hy) with rfl|hy
   ·exact hp1 z hz
   ·exact hg y z hy (List.mem_cons_of_mem _ hz)) hp2
  have e0:A'++x::(B'++rest)=(A'++x::B')++rest:=by simp
  rw [hlen,← hw,← e0] at r2 r3;have hlt:decide ((pre.length:Int) < (m:Int))=true:=by simp;omega
  refine⟨r,r1.trans ?_,?_,?_⟩
  ·refine (hperm.append_right rest).trans ?_;exact List.perm_middle.symm
  ·refine (z1b (s':=(wr ((pre.length:Int)+1),A'++x::(B'++rest))) ?_).trans r2;unfold gL1;rw [if_pos hlt];exact q2
  ·refine (z1b (s':=(wr ((pre.length:Int)+1),(A'++x::(B'++rest)).map f)) ?_).trans r3;unfold gL1;rw [if_pos hlt];exact q3
theorem w7h (l:List α) (h:l.length<=1000000) (hp:l.Pairwise λy x=>y4k p q f x y):∃ r,r.Perm l/\gIns l 0 (l.length:Int) p=some r/\gIns (l.map f) 0 (l.length:Int) q=some (r.map f):=by
 have hw:wr ((0:Int)+1)=1:=by decide
 unfold gIns;rw [hw]
 cases l with
 | nil =>
  refine⟨[],List.Perm.refl _,ko ?_,ko ?_⟩
  ·unfold gL1;rw [if_neg (by simp)]
  ·unfold gL1;rw [if_neg (by simp)]
 | cons x l =>
  obtain⟨hp1,hp2⟩:=List.pairwise_cons.1 hp;obtain⟨r,r1,r2,r3⟩:=x6q (x::l).length l [x] (by simp only [List.length_cons,List.length_nil];omega) h (λy z hy hz=>by rw [List.mem_singleton.1 hy];exact hp1 z hz) hp2;exact⟨r,r1,r2,r3⟩
end
def gPdq (v1:List α) (v2 v3 v4:Int) (p4:α->α->Option Int):Option (List α):=
 iter (λ(s:Int×Int×Int×Bool×Bool)=>if decide ((wr (s.2.1-s.1))<=12) then ((gIns v1 s.1 s.2.1 p4).bind λ(r12:List α)=>if r12.length=v1.length then (some (.inr r12)) else none) else (if decide (s.2.2.1=0) then none else none)) (v2,v3,v4,true,true)
theorem w7c (l r:List α) (p:α->α->Option Int) (v:Int) (h:l.length<=12) (hr:gIns l 0 (l.length:Int) p=some r) (hl:r.length=l.length):gPdq l 0 (l.length:Int) v p=some r:=by
 refine ko ?_;have e:wr ((l.length:Int)-0)=(l.length:Int):=by rw [wb (by omega)];omega
 show (if decide ((wr ((l.length:Int)-0))<=12) then _ else _)=_;rw [e,if_pos (by simp;omega),hr];simp only [Option.bind_some];rw [if_pos hl]
def w7b (n2:Int) (bs a19 b20:Int):Option ((Int×Int) ⊕ (Int ⊕ List α)):=
 if decide (b20<=n2) then none else (Option.map .inr (if decide ((wr (a19+bs)) < n2) then none else (some (.inl (wr (bs*2))))))
def y93 (n2:Int) (r13:List α) (bs:Int):Option (Int ⊕ List α):=
 if decide (bs < n2) then (iter (λ(s:Int×Int)=>w7b n2 bs s.1 s.2) (0,wr (2*bs))) else (some (.inr r13))
def x6v (n2:Int) (p2:α->α->Option Int) (a11:Int) (d12:List α):Option (List α):=
 (gIns d12 a11 n2 p2).bind λ(r13:List α)=>if r13.length=d12.length then (iter (λ(s:Int)=>y93 n2 r13 s) 20) else none
def y94 (n2:Int) (p2:α->α->Option Int) (a3 b4:Int) (l5:List α):Option ((Int×Int×List α) ⊕ List α):=
 if decide (b4<=n2) then ((gIns l5 a3 b4 p2).bind λ(r8:List α)=>if r8.length=l5.length then (some (.inl (b4,wr (b4+20),r8))) else none) else (Option.map .inr (x6v n2 p2 a3 l5))
def w7a (d1:List α) (n2:Int) (p2:α->α->Option Int):Option (List α):=iter (λ(s:Int×Int×List α)=>y94 n2 p2 s.1 s.2.1 s.2.2) (0,20,d1)
theorem w69 (l r:List α) (p:α->α->Option Int) (h:l.length<=19) (hr:gIns l 0 (l.length:Int) p=some r) (hl:r.length=l.length):w7a l (l.length:Int) p=some r:=by
 refine ko ?_;show y94 (l.length:Int) p 0 20 l=_;unfold y94 x6v;rw [if_neg (by simp;omega),hr];simp only [Option.bind_some];rw [if_pos hl]
 have:iter (λ(s:Int)=>y93 (l.length:Int) r s) 20=some r:=by
  refine ko ?_;unfold y93;rw [if_neg (by simp;omega)]
 rw [this];rfl
end
section
variable {α:Type}
def gCfJ (z:α) (v30:Int) (v31:List α):Option (Int ⊕ List α):=
 if (0:Int)<=v30/\v30 < (v31.length:Int) then (if (0:Int)<=v30/\v30<=((v31.take v30.toNat++List.replicate (v31.length-v30.toNat) z).length:Int) then (some (.inr ((v31.take v30.toNat++List.replicate (v31.length-v30.toNat) z).take v30.toNat))) else none) else none
def gCfI (z:α) (p1:α->α->Option Bool) (v3 v14 v15:Int) (l16:List α):Option ((Int×Int×List α) ⊕ (Int ⊕ List α)):=
 if decide (v15 < ((l16.drop v3.toNat).length:Int)) then ((at? (l16.drop v3.toNat) v15).bind λx19=>(at? (l16.drop v3.toNat) (wr (v15-1))).bind λx21=>(p1 x19 x21).bind λ(r23:Bool)=>if !r23 then ((at? l16 v14).bind λx26=>some (.inl (wr (v14+1),wr (v15+1),l16.set v14.toNat x19))) else (some (.inl (v14,wr (v15+1),l16)))) else (Option.map .inr (gCfJ z v14 l16))
def gCfO (z:α) (v1:List α) (p1:α->α->Option Bool) (v3:Int):Option (Int ⊕ List α):=
 if decide (v3 < (v1.length:Int)) then ((at? v1 v3).bind λx6=>(at? v1 (wr (v3-1))).bind λx8=>(p1 x6 x8).bind λ(r10:Bool)=>if r10 then (if (0:Int)<=v3/\v3 < (v1.length:Int) then (iter (λ(s:Int×Int×List α)=>gCfI z p1 v3 s.1 s.2.1 s.2.2) (v3,1,v1)) else none) else (some (.inl (wr (v3+1))))) else (Option.map .inr (some v1))
def gCf (z:α) (v1:List α) (p1:α->α->Option Bool):Option (List α):=
 if decide ((v1.length:Int) < 2) then some v1 else (iter (λ(s:Int)=>gCfO z v1 p1 s) 1)
theorem Qr (l:List α) (m:Int) (h:0<=m/\m < (l.length:Int)):∃ y,at? l m=some y/\y∈l/\l[m.toNat]?=some y:=by
 unfold at?;rw [if_pos h.1,List.getElem?_eq_getElem (by omega)];exact⟨_,rfl,List.getElem_mem _,rfl⟩
theorem w7k (z:α) (l:List α) (p:α->α->Option Bool) (hl:l.length<=1000000) (hp:∀ x y,x∈l->y∈l->∃ b,p x y=some b):Ok (gCf z l p) λr=>r.length<=l.length/\∀ x,x∈r->x∈l:=by
 unfold gCf;refine wv (λ_=>qt ⟨Nat.le_refl _,λx hx=>hx⟩) (λh2=>?_);have h2:2<=l.length:=by simp at h2;omega
 refine y8l (λs:Int=>1<=s/\s<=(l.length:Int)) (λs=>((l.length:Int)-s).toNat) ?_ 1 ⟨by omega,by omega⟩;intro s hs;unfold gCfO;refine wv (λhc=>?_) (λhc=>qt ⟨Nat.le_refl _,λx hx=>hx⟩);have hc:s < (l.length:Int):=by simpa using hc
 obtain⟨x,hx,mx,_⟩:=Qr l s ⟨by omega,hc⟩;obtain⟨y,hy,my,_⟩:=Qr l (s-1) ⟨by omega,by omega⟩;rw [wb (n:=s-1) (by omega),hx,hy];obtain⟨b,hb⟩:=hp x y mx my;simp only [Option.bind_some,hb];refine wv (λ_=>ok_g ⟨by omega,hc⟩ ?_) (λ_=>qt ?_)
 ·refine y8l (λq:Int×Int×List α=>s<=q.1/\1<=q.2.1/\q.1 < s+q.2.1/\s+q.2.1<=(l.length:Int)/\q.2.2.length=l.length/\∀ x,x∈q.2.2->x∈l) (λq=>((l.length:Int)-q.2.1).toNat) ?_ _ ⟨by simp,by simp,by simp only;omega,by simp only;omega,rfl,λx hx=>hx⟩;rintro⟨i,j,m⟩ ⟨q1,q2,q3,q4,q5,q6⟩;simp only at q1 q2 q3 q4 q5 q6;unfold gCfI;have hd:((m.drop s.toNat).length:Int)=(l.length:Int)-s:=by rw [List.length_drop];omega
  refine wv (λhj=>?_) (λhj=>?_)
  ·have hj:j < ((m.drop s.toNat).length:Int):=by simpa using hj
   obtain⟨x1,e1,m1,_⟩:=Qr (m.drop s.toNat) j ⟨by omega,hj⟩;obtain⟨x2,e2,m2,_⟩:=Qr (m.drop s.toNat) (j-1) ⟨by omega,by omega⟩;obtain⟨x3,e3,m3,_⟩:=Qr m i ⟨by omega,by omega⟩;obtain⟨b2,hb2⟩:=hp x1 x2 (q6 _ (List.mem_of_mem_drop m1)) (q6 _ (List.mem_of_mem_drop m2));simp only;rw [wb (n:=j-1) (by omega),e1,e2];simp only [Option.bind_some,hb2,e3];rw [wb (n:=j+1) (by omega),wb (n:=i+1) (by omega)];refine wv (λ_=>qt ?_) (λ_=>qt ?_)
   ·refine⟨⟨by simp only;omega,by simp only;omega,by simp only;omega,by simp only;omega,by simp only [List.length_set];exact q5,λx hx=>?_⟩,by simp only;omega⟩;rcases List.mem_or_eq_of_mem_set hx with hx|hx
    ·exact q6 x hx
    ·rw [hx];exact q6 _ (List.mem_of_mem_drop m1)
   ·exact⟨⟨by simp only;omega,by simp only;omega,by simp only;omega,by simp only;omega,q5,q6⟩,by simp only;omega⟩
  ·have hj:¬ j < ((m.drop s.toNat).length:Int):=by simpa using hj
   simp only;unfold gCfJ;rw [if_pos ⟨by omega,by omega⟩,if_pos ⟨by omega,by simp;omega⟩];refine qt ?_;simp only [rd]
   have e:(m.take i.toNat++List.replicate (m.length-i.toNat) z).take i.toNat=m.take i.toNat:=by
    have:(m.take i.toNat).length=i.toNat:=by rw [List.length_take];omega
    conv=>lhs;arg 1;rw [← this]
    rw [List.take_left]
   rw [e];exact⟨by rw [List.length_take];omega,λx hx=>q6 x (List.mem_of_mem_take hx)⟩
 ·simp only [rd];rw [wb (n:=s+1) (by omega)];omega
theorem x5t (l:List α) (h:l≠[]) (hl:l.length<=1000000000):∃ y,at? l (wr ((l.length:Int)-1))=some y/\l.getLast?=some y:=by
 have hp:0 < l.length:=by cases l with|nil=>exact absurd rfl h|cons _ _=>simp
 rw [wb (by omega)];obtain⟨y,h1,_,h3⟩:=Qr l ((l.length:Int)-1) ⟨by omega,by omega⟩;refine⟨y,h1,?_⟩;rw [List.getLast?_eq_getElem?,← h3];congr 1;omega
end
theorem w1z {k:Int} {s:zq} (h:SB k s) (hk:k<=100000):Ok (y0f s) λr=>(r.1.length<=3/\∀ x,x∈r.1->x.Key.length<=100/\x.Owner.length<=100)/\SB (k+2) r.2:=by
  unfold y0f;refine ym (kj h (by omega) _ ⟨by simp,by simp⟩) λr2 h2=>ym (kw h2.2 (by omega) _ ⟨by simp,by simp⟩) λr4 h4=>?_;have b4:=h4.1;simp only [List.mem_cons,List.not_mem_nil,or_false] at b4
  have b2:r2.1.length<=100:=by
    have h1:=h2.1;simp only [List.mem_cons,List.not_mem_nil,or_false] at h1;rcases h1 with h1|h1 <;> rw [h1] <;> decide
  have hs:∀ (l:List zn),l.length=3->(∀ x,x∈l->x.Key.length<=100/\x.Owner.length<=100)->(l.take r4.1.toNat).length<=3/\∀ x,x∈l.take r4.1.toNat->x.Key.length<=100/\x.Owner.length<=100:=λl hl hx=>⟨by rw [List.length_take];omega,λx h=>hx x (List.mem_of_mem_take h)⟩
  have hsub:=hs [(zn.mk [97,112,112,49] [97,110,110]),(zn.mk [97,112,112,50] r2.1),(zn.mk [97,112,112,51] [98,111,98])] rfl λx hx=>?_
  · first
    | exact ok_g (by simp only [List.length_cons,List.length_nil];omega) (qt ⟨hsub,h4.2.mono (by omega)⟩)
    | (unfold sub?
       rw [if_pos (by simp only [List.length_cons,List.length_nil];omega)]
       exact qt ⟨hsub,h4.2.mono (by omega)⟩)
  simp only [List.mem_cons,List.not_mem_nil,or_false] at hx;rcases hx with hx|hx|hx <;> subst hx
  · exact⟨by simp,by simp⟩
  · exact⟨by simp,b2⟩
  · exact⟨by simp,by simp⟩
theorem w9q {k:Int} {s:zq} (h:SB k s) (hk:k<=100000):Ok (y0l s) λr=>(r.1.length<=4/\∀ x,x∈r.1->x.Key.length<=100/\x.Owner.length<=100)/\SB (k+10) r.2:=by
 unfold y0l z7f;refine ym (w1z h hk) λr2 h2=>ym (xi h2.2 (by omega) _ (by omega)) λr4 h4=>wv (λ_=>?_) (λ_=>qt ⟨⟨by have:=h2.1.1;simp only;omega,h2.1.2⟩,h4.mono (by omega)⟩);refine ym (kj h4 (by omega) _ ⟨by simp,by simp⟩) λr6 h6=>ym (kj h6.2 (by omega) _ ⟨by simp,by simp⟩) λr8 h8=>ok_g (by have:=h2.1.1;omega) (qt ⟨⟨by have:=h2.1.1;simp;omega,λx hx=>?_⟩,h8.2.mono (by omega)⟩);rcases List.mem_append.1 hx with hx|hx
 ·exact h2.1.2 x hx
 ·simp only [List.mem_singleton] at hx;subst hx;have h1:=h6.1;have h3:=h8.1;simp only [List.mem_cons,List.not_mem_nil,or_false] at h1 h3;exact⟨by rcases h1 with h1|h1|h1 <;> simp only [h1] <;> decide,by rcases h3 with h1|h1 <;> simp only [h1] <;> decide⟩
theorem w6r (c:zw) (key:Bs) (h:¬ ixL c key < 0):∃ y,at? c.Plans (ixL c key)=some y:=by
 have h1:=y5f (λx:yd=>decide (x.Key=key)) c.Plans
 have h2:decide (0<=fdx (λx:yd=>decide (x.Key=key)) 0 c.Plans)=true:=by
  have:0<=ixL c key:=by omega
  simpa [ixL] using this
 rw [h2] at h1;obtain⟨_,x,h3,_⟩:=y5g _ c.Plans h1.symm;exact⟨x,h3⟩
theorem w9w (c:zw) (hb:c.Plans.length<=100000) (s:ya) (x:zj):Ok (z08 c s x) λ_=>True:=by
 have hp:xr c x.Plan=some (ixL c x.Plan):=y3f c x.Plan hb;unfold z08 z3i Zj z3h z3g
 by_cases hk:x.Kind=1
 ·by_cases hi:ixL c x.Plan < 0
  ·simp only [hk,hp,hi,decide_true,if_true,Option.bind_some];exact qt trivial
  ·obtain⟨y,hy⟩:=w6r c x.Plan hi;simp only [hk,hp,hi,hy,Qm,decide_true,decide_false,Bool.false_eq_true,if_false,if_true,Option.bind_some]
   repeat' first|exact qt trivial|refine wv (λ_=>?_) (λ_=>?_)
 ·simp only [hk,Qm,decide_false,Bool.false_and,Bool.false_eq_true,if_false,Option.bind_some]
  repeat' first|exact qt trivial|refine wv (λ_=>?_) (λ_=>?_)
theorem w03 (c:zw) (hb:c.Plans.length<=100000) (l:List zj) (hl:l.length<=1000000) (a p:Bs):Ok (z96 c l a p) λr=>r.1≠[]/\r.1.length<=l.length+1:=by
 unfold z96 z07;simp only [Option.bind_some];refine ok_g (by omega) ?_;refine z5g (λ(j:Nat) (q:(List ya)×(List Int))=>q.1≠[]/\q.1.length<=j+1/\q.2.length<=j) _ 0 _ ⟨by simp,by simp,by simp⟩ ?_ ?_
 ·rintro j x ⟨u,v⟩ _ hx ⟨q1,q2,q3⟩;simp only at q1 q2 q3;have hj:j < l.length:=by have:=ji hx;omega
  unfold y4p z3k;refine wv (λ_=>qt ⟨q1,by simp only;omega,by simp only;omega⟩) (λ_=>?_);obtain⟨y,hy,_⟩:=x5t u q1 (by omega);simp only [hy,Option.bind_some];refine ym (w9w c hb y x) λr _=>wv (λ_=>ok_g (by omega) (qt ?_)) (λ_=>ok_g (by omega) (qt ?_))
  ·exact⟨by simp,by simp;omega,by simp only;omega⟩
  ·exact⟨q1,by simp only;omega,by simp;omega⟩
 ·rintro⟨u,v⟩ ⟨q1,q2,q3⟩;unfold y4q;exact qt ⟨q1,by simp only at q2 ⊢;omega⟩
abbrev EQ:Type:=(Int×(List Int)×Int×(List zj)) ⊕ ((List zj)×zq)
def ER (K:Int) (a:Int) (n:Nat) (R:(List zj)×zq->Prop):EQ->Prop:=
 rd (λq=>SB K ⟨q.2.1,q.2.2.1⟩/\(0<=q.1/\q.1<=a+2592000000)/\q.2.2.2.length<=n+1/\∀ x,x∈q.2.2.2->EB x) R
section
variable {K:Int} {n:Nat} {v5:Int} {l8:List zj} {r21:Int×zq} {r25:Bs×zq} {R:(List zj)×zq->Prop}
variable (hv:0<=v5/\v5<=1000000000000000) (h21:0<=r21.1/\r21.1<=2592000000) (hl:l8.length<=n/\n<=1000/\∀ x,x∈l8->EB x) (h25:r25.1.length<=100)
include hv h21 hl
theorem eJ2 {K2:Int} (hK:K2<=K) {c d} (hs:SB K2 ⟨c,d⟩):Ok (z1g (wr (v5+r21.1)) l8 c d) (ER K v5 n R):=by
 unfold z1g;rw [wb (by omega)];exact qt ⟨hs.mono hK,by simp only;omega,by have:=hl.1;simp only;omega,hl.2.2⟩
theorem eJ9 {K2:Int} (hK:K2<=K) {c d} (hs:SB K2 ⟨c,d⟩) {t:Int} {a p k q} (hx:EB (zj.mk t a p k q)):Ok (Yy v5 l8 r21 c d t a p k q) (ER K v5 n R):=by
 have h1:=hl.1;have h2:=hl.2.1;unfold Yy z1g;rw [wb (by omega)];refine ok_g (by omega) (qt ⟨hs.mono hK,by simp only;omega,by simp;omega,λx hm=>?_⟩);rcases List.mem_append.1 hm with hm|hm
 ·exact hl.2.2 x hm
 ·rw [List.mem_singleton.1 hm];exact hx
include h25
theorem eJ8 {c44:Bs} (h44:c44.length<=100) {c76:Int} {c d} (hs:SB K ⟨c,d⟩) (hk:K<=100000) {q:Bs} (hq:q.length<=100):Ok (z3u v5 l8 r21 r25 c44 c76 c d q) (ER (K+4) v5 n R):=by
 unfold z3u;have ht:atB (wr (v5+r21.1)):=by rw [wb (by omega)];unfold atB;omega
 refine ym (xi hs (by omega) _ (by omega)) λr86 h86=>wv (λ_=>?_) (λ_=>eJ9 hv h21 hl (by omega) h86 ⟨ht,by simp only;omega,by simp only;omega,by simp only;omega⟩);refine ym (Ys h86 (by omega) _ (by omega)) λr89 h89=>wv (λ_=>?_) (λ_=>wv (λ_=>?_) (λ_=>wv (λ_=>?_) (λ_=>wv (λ_=>?_) (λ_=>?_))))
 ·unfold y4c;refine ym (Q:=λ(r:Bs×zq)=>r.1.length<=100/\SB (K+3) r.2) (ym (kj h89.2 (by omega) _ ⟨by simp,by simp⟩) λr2 h2=>qt ⟨?_,h2.2.mono (by omega)⟩) λr92 h92=>eJ9 hv h21 hl (by omega) h92.2 ⟨ht,by have:=h92.1;simp only;omega,by simp only;omega,by simp only;omega⟩;have h1:=h2.1;simp only [List.mem_cons,List.not_mem_nil,or_false] at h1;rcases h1 with h1|h1|h1|h1|h1|h1 <;> simp only [h1] <;> decide
 ·unfold y4b;refine ym (Q:=λ(r:Bs×zq)=>r.1.length<=100/\SB (K+3) r.2) (ym (kj h89.2 (by omega) _ ⟨by simp,by simp⟩) λr2 h2=>qt ⟨?_,h2.2.mono (by omega)⟩) λr92 h92=>eJ9 hv h21 hl (by omega) h92.2 ⟨ht,by simp only;omega,by have:=h92.1;simp only;omega,by simp only;omega⟩;have h1:=h2.1;simp only [List.mem_cons,List.not_mem_nil,or_false] at h1;rcases h1 with h1|h1|h1|h1|h1 <;> simp only [h1] <;> decide
 ·exact ym (Ye h89.2 (by omega) _ _ (by omega)) λr98 h98=>eJ9 hv h21 hl (by omega) h98.2 ⟨ht,by simp only;omega,by simp only;omega,by simp only;omega⟩
 ·refine ym (kj h89.2 (by omega) _ ⟨by simp,by simp⟩) λr101 h101=>eJ9 hv h21 hl (by omega) h101.2 ⟨ht,by simp only;omega,by simp only;omega,?_⟩;have h1:=h101.1;simp only [List.mem_cons,List.not_mem_nil,or_false] at h1;rcases h1 with h1|h1|h1 <;> simp only [h1] <;> decide
 ·exact ym (Ye h89.2 (by omega) _ _ (by omega)) λr103 h103=>eJ9 hv h21 hl (by omega) h103.2 ⟨by have:=h103.1;unfold atB;simp only;omega,by simp only;omega,by simp only;omega,by simp only;omega⟩
theorem eJ6 {c44:Bs} (h44:c44.length<=100) {l45:List Bs} (h45:l45.length<=1000/\∀ x,x∈l45->x.length<=100) {c76:Int} {c d} (hs:SB K ⟨c,d⟩) (hk:K<=90000):Ok (Yz v5 l8 r21 r25 c44 l45 c d c76) (ER (K+5) v5 n R):=by
 unfold Yz;refine wv (λ_=>wv (λ_=>eJ2 hv h21 hl (by omega) hs) (λh0=>?_)) (λ_=>?_)
 ·have h0:0 < l45.length:=by simp at h0;cases hq:l45 with|nil=>exact absurd hq h0|cons _ _=>simp
  refine ym (Ys hs (by omega) _ (by omega)) λr79 h79=>?_;obtain⟨y,h1,h2,_⟩:=Qr l45 r79.1 ⟨h79.1.1,h79.1.2.1 (by omega)⟩;rw [h1];simp only [Option.bind_some];exact z9b (eJ8 (K:=K+1) (n:=n) (R:=R) hv h21 hl h25 h44 h79.2 (by omega) (h45.2 y h2)) λq hq=>by rw [show K+5=K+1+4 by omega];exact hq
 ·exact z9b (eJ8 (K:=K+1) (n:=n) (R:=R) hv h21 hl h25 h44 (hs.mono (by omega)) (by omega) (by simp)) λq hq=>by rw [show K+5=K+1+4 by omega];exact hq
theorem eJ7 {v2:zw} (hc:CS v2) {r27:Int×zq} {c44:Bs} (h44:c44.length<=100) {l45:List Bs} (h45:l45.length<=1000/\∀ x,x∈l45->x.length<=100) {v57:Bool} {c d} (hs:SB K ⟨c,d⟩) (hk:K<=80000):Ok (z1e v2 v5 l8 r21 r25 r27 c44 l45 v57 c d) (ER (K+6) v5 n R):=by
 unfold z1e;have hfin:∀ {c76:Int} {c d},SB (K+1) ⟨c,d⟩->Ok (Yz v5 l8 r21 r25 c44 l45 c d c76) (ER (K+6) v5 n R):=λhs=>z9b (eJ6 (K:=K+1) (n:=n) (R:=R) hv h21 hl h25 h44 h45 hs (by omega)) λq hq=>by rw [show K+6=K+1+5 by omega];exact hq
 have b1:=hl.1;have b2:=hl.2.1;refine wv (λ_=>?_) (λ_=>hfin (hs.mono (by omega)));refine ym (w03 v2 (by have:=hc.nl;omega) l8 (by omega) _ _) λr61 h61=>?_;obtain⟨y,hy,_⟩:=x5t r61.1 h61.1 (by have:=h61.2;omega);rw [hy];simp only [Option.bind_some];refine wv (λ_=>?_) (λ_=>wv (λ_=>?_) (λ_=>wv (λ_=>?_) (λ_=>hfin (hs.mono (by omega)))))
 all_goals exact ym (kw hs (by omega) _ ⟨by simp,by simp⟩) λr66 h66=>hfin h66.2
theorem eJ3 {v2:zw} (hc:CS v2) {r27:Int×zq} {c44:Bs} (h44:c44.length<=100) {c d} (hs:SB K ⟨c,d⟩) (hk:K<=70000):Ok (z1f v2 v5 l8 r21 r25 r27 c d c44) (ER (K+7) v5 n R):=by
 unfold z1f;have hn:=hc.nl;refine ok_g (by omega) ?_;refine z5g (λ(j:Nat) (q:List Bs)=>q.length<=j/\∀ x,x∈q->x.length<=100) _ 0 _ ⟨by simp,by simp⟩ ?_ ?_
 ·rintro j x q _ hx ⟨q1,q2⟩;have hj:j < v2.Plans.length:=by have:=ji hx;omega
  unfold y44 z7e;refine wv (λ_=>ok_g (by omega) (qt ⟨by simp;omega,λy hy=>?_⟩)) (λ_=>qt ⟨by omega,q2⟩);rcases List.mem_append.1 hy with hy|hy
  ·exact q2 y hy
  ·rw [List.mem_singleton.1 hy];exact (hc.kl x (List.mem_of_getElem? hx)).1
 ·rintro q ⟨q1,q2⟩;unfold y46;have h45:q.length<=1000/\∀ x,x∈q->x.length<=100:=⟨by omega,q2⟩
  have hfin:∀ {v:Bool} {c d},SB (K+1) ⟨c,d⟩->Ok (z1e v2 v5 l8 r21 r25 r27 c44 q v c d) (ER (K+7) v5 n R):=λhs=>z9b (eJ7 (K:=K+1) (n:=n) (R:=R) hv h21 hl h25 hc h44 h45 hs (by omega)) λq hq=>by rw [show K+7=K+1+6 by omega];exact hq
  refine ym (xi hs (by omega) _ (by omega)) λr50 h50=>wv (λ_=>?_) (λ_=>hfin h50);rw [x05 v2 hc.cb];exact hfin h50
end
theorem w07 (l r:List zj) (p:zj->zj->Option Int) (h:l.length<=19) (hr:gIns l 0 (l.length:Int) p=some r) (hl:r.length=l.length):z5i l p=some r:=by
 unfold z5i;have e:y3r l (l.length:Int) p=some r:=w69 l r _ h hr hl;rw [e];simp only [Option.bind_some];rw [if_pos hl]
theorem w78 {k:Int} {s:zq} (h:SB k s) (hk:k<=10000) {c:zw} (hc:CS c) {apps:List zn} (ha:apps.length<=10/\∀ x,x∈apps->x.Key.length<=100/\x.Owner.length<=100) {n:Int} (hn:0<=n/\n<=19) :
  Ok (y0j s c apps n) λr=>((r.1.length:Int)<=n/\∀ x,x∈r.1->EB x)/\SB (k+400) r.2:=by
 unfold y0j;refine ok_g (by omega) ?_;refine z5f (λ(j:Nat) (q:Int×(List Int)×Int×(List zj))=>SB (k+20*(j:Int)) ⟨q.2.1,q.2.2.1⟩/\(0<=q.1/\q.1<=2592000000*(j:Int))/\q.2.2.2.length<=j/\∀ x,x∈q.2.2.2->EB x) _ 0 _ ⟨by simpa using h,by simp,by simp,by simp⟩ ?_ ?_
 ·rintro j ⟨v5,c6,c7,l8⟩ _ hj ⟨q1,q2,q3,q4⟩;simp only at q1 q2 q3 q4;have hj:j < 19:=by omega
  unfold y45;simp only;refine ym (kw q1 (by omega) _ ⟨by simp,by simp⟩) λr21 h21=>ym (kj h21.2 (by omega) _ ⟨by simp,by simp⟩) λr23 h23=>ym (kj h23.2 (by omega) _ ⟨by simp,by simp⟩) λr25 h25=>ym (z86 h25.2 (by omega) _ _ (by omega)) λr27 h27=>?_
  have b21:0<=r21.1/\r21.1<=2592000000:=by
   have h1:=h21.1;have h2:=Int.tmod_nonneg 2592000000 q2.1;have h3:=Int.tmod_lt_of_pos v5 (show (0:Int) < 2592000000 by omega);rw [wb (n:=2592000000-v5.tmod 2592000000) (by omega)] at h1;simp only [List.mem_cons,List.not_mem_nil,or_false] at h1;omega
  have b23:r23.1.length<=100:=by
   have h1:=h23.1;simp only [List.mem_cons,List.not_mem_nil,or_false] at h1;rcases h1 with h1|h1|h1 <;> rw [h1] <;> decide
  have b25:r25.1.length<=100:=by
   have h1:=h25.1;simp only [List.mem_cons,List.not_mem_nil,or_false] at h1;rcases h1 with h1|h1|h1 <;> rw [h1] <;> decide
  have hfin:∀ {a:Bs} {c1 d1},a.length<=100->SB (k+20*(j:Int)+6) ⟨c1,d1⟩->Ok (z1f c v5 l8 r21 r25 r27 c1 d1 a) (rd (λ(q:Int×(List Int)×Int×(List zj))=>SB (k+20*((j+1:Nat):Int)) ⟨q.2.1,q.2.2.1⟩/\(0<=q.1/\q.1<=2592000000*((j+1:Nat):Int))/\q.2.2.2.length<=j+1/\∀ x,x∈q.2.2.2->EB x) λr=>((r.1.length:Int)<=n/\∀ x,x∈r.1->EB x)/\SB (k+400) r.2):=λha hs=>z9b (eJ3 (K:=k+20*(j:Int)+6) (n:=j) (R:=λr=>((r.1.length:Int)<=n/\∀ x,x∈r.1->EB x)/\SB (k+400) r.2) (by omega) b21 ⟨q3,by omega,q4⟩ b25 hc ha hs (by omega)) λq hq=>by
   cases q with
   | inl q=>exact⟨hq.1.mono (by omega),⟨hq.2.1.1,by have:=hq.2.1.2;omega⟩,hq.2.2.1,hq.2.2.2⟩
   | inr q=>exact hq
  unfold z7d;refine wv (λhp=>ym (xi h27.2 (by omega) _ (by omega)) λr31 h31=>wv (λ_=>?_) (λ_=>hfin b23 (h31.mono (by omega)))) (λ_=>?_)
  ·have hp:0 < apps.length:=by simpa using hp
   refine ym (Ys h31 (by omega) _ (by omega)) λr38 h38=>?_;obtain⟨y,h1,h2,_⟩:=Qr apps r38.1 ⟨h38.1.1,h38.1.2.1 (by omega)⟩;rw [h1];simp only [Option.bind_some];exact hfin (ha.2 y h2).1 (h38.2.mono (by omega))
  ·rw [if_neg (by decide)];exact hfin b23 (h27.2.mono (by omega))
 ·rintro⟨v5,c6,c7,l8⟩ ⟨q1,q2,q3,q4⟩;simp only at q1 q2 q3 q4;have hn8:(l8.length:Int)<=n:=by omega
  have hl:l8.length<=19:=by omega
  unfold y47;obtain⟨r,p1,p2,_⟩:=w7h (p:=λa0 a1=>Qk a0 a1) (q:=λa0 a1=>Qk a0 a1) (f:=id) l8 (by omega) (List.pairwise_iff_getElem.2 λi j hi hj _=>⟨_,_,y3l _ _ (q4 _ (List.getElem_mem hj)).t (q4 _ (List.getElem_mem hi)).t,y3l _ _ (q4 _ (List.getElem_mem hj)).t (q4 _ (List.getElem_mem hi)).t,Iff.rfl⟩);have e1:z5i l8 (λ(a0:zj) (a1:zj)=>Qk a0 a1)=some r:=w07 l8 r _ hl p2 p1.length_eq;rw [e1];simp only [Option.bind_some];rw [if_pos p1.length_eq];have hr:∀ x,x∈r->EB x:=λx hx=>q4 x (p1.mem_iff.1 hx);have hrl:(r.length:Int)<=n:=by rw [p1.length_eq];exact hn8
  refine ym (xi q1 (by omega) _ (by omega)) λr15 h15=>wv (λ_=>qt ⟨⟨hrl,hr⟩,h15.mono (by omega)⟩) (λ_=>?_);refine ym (w7k (zj.mk 0 [] [] 0 []) r _ (by omega) λx y hx hy=>⟨_,by unfold y0i;rw [y3l x y (hr x hx).t (hr y hy).t];rfl⟩) λr18 h18=>qt ⟨⟨by have:=h18.1;simp only;omega,λx hx=>hr x (h18.2 x hx)⟩,h15.mono (by omega)⟩
end
end Go.Proofs.YtbpedjpoikmbjaaGreatDoor
