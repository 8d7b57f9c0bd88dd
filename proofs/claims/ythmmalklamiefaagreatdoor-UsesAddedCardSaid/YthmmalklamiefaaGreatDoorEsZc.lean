/- Plain: subscriptions at a moment: the program's book up to it, the reference's stages. -/
import Derived.Test.YthmmalklamiefaaGreatDoorEbZc
import Derived.Test.YthmmalklamiefaaGreatDoorRng
namespace Go.Proofs.YthmmalklamiefaaGreatDoor
set_option linter.unusedVariables false
set_option linter.unusedSimpArgs false
set_option linter.unusedSectionVars false
set_option maxRecDepth 20000
theorem x7v (b:z3a) (a p:Bs) (ha:a.length≤1000000∧p.length≤1000000):y0y b a p=some (bk b.subs_ a p):=by
 unfold y0y y3l bk
 rw [if_pos ⟨by omega,by omega⟩]
 cases lkG b.subs_ (z0u.mk a p) with
 | none=>rfl
 | some v=>rfl
def cutT (v:Int) (l:List z0f):List z0f:=l.takeWhile fun x=>decide (x.At≤v)
theorem w5h {α:Type} {p:α→Bool}:∀ {l:List α} {x:α},x∈l.takeWhile p→p x=true
 | [],x,h=>by simp at h
 | y::l,x,h=>by
  rw [List.takeWhile_cons] at h
  split at h
  ·rename_i hy
   rcases List.mem_cons.1 h with rfl | h
   ·exact hy
   ·exact w5h h
  ·simp at h
theorem x8y {v:Int} {l:List z0f} {x:z0f} (h:x∈cutT v l):x∈l∧x.At≤v:=
 ⟨(List.takeWhile_sublist _).subset h,by have:=w5h h; simpa using this⟩
section
variable {κ τ:Type}
theorem w1k (l:List (κ×τ)) (k:κ) (v:τ):∀ p,p∈ptG l k v→p=(k,v)∨(p∈l∧p.1≠k)∨p∈l:=by
 induction l with
 | nil=>intro p hp; simp only [ptG,List.mem_singleton] at hp; exact .inl hp
 | cons q l ih =>
  intro p hp
  rw [ptG] at hp
  split at hp
  ·rcases List.mem_cons.1 hp with rfl | hp
   ·exact .inl rfl
   ·exact .inr (.inr (by simp [hp]))
  ·rcases List.mem_cons.1 hp with rfl | hp
   ·exact .inr (.inr (by simp))
   ·rcases ih p hp with h | h | h
    ·exact .inl h
    ·exact .inr (.inr (by simp [h.1]))
    ·exact .inr (.inr (by simp [h]))
theorem x8h {l:List (κ×τ)} (k:κ) (v:τ) (h:l.Pairwise fun p q=>p.1≠q.1):(ptG l k v).Pairwise fun p q=>p.1≠q.1:=by
 induction l with
 | nil=>simp [ptG]
 | cons q l ih =>
  obtain ⟨h1,h2⟩:=List.pairwise_cons.1 h
  rw [ptG]
  split
  ·rename_i hq
   exact List.pairwise_cons.2 ⟨fun p hp=>by rw [← hq]; exact h1 p hp,h2⟩
  ·rename_i hq
   refine List.pairwise_cons.2 ⟨fun p hp => ?_,ih h2⟩
   rcases w1k l k v p hp with rfl | h | h
   ·exact hq
   ·exact h1 p h.1
   ·exact h1 p h
theorem w62 {l:List (κ×τ)} (h:l.Pairwise fun p q=>p.1≠q.1) {p:κ×τ} (hp:p∈l):lkG l p.1=some p.2:=by
 obtain ⟨j,hj⟩:=List.getElem?_of_mem hp
 exact (x55 l j p.1 p.2 h hj).1
theorem w1w:∀ {l:List (κ×τ)} {k:κ} {v:τ},lkG l k=some v→(k,v)∈l
 | [],k,v,h=>by simp [lkG] at h
 | q::l,k,v,h=>by
  rw [lkG] at h
  split at h
  ·rename_i hq; cases h; subst hq; simp
  ·exact List.mem_cons_of_mem _ (w1w h)
end
structure BI (c:z0i) (l:List z0f) (k:Nat) (m4:List (z0u×z0o)) (m5:List (z0u×Int)):Prop where
 d:m4.Pairwise fun p q=>p.1≠q.1
 s:∀ a p,SI (bk m4 a p)
 w:∀ q,q∈m4→q.2.State=1→∃ (i:Nat) (x:z0f),l[i]?=some x∧x.App=q.1.app_∧x.Product=q.1.product_∧x.Kind=1∧x.At=q.2.Since∧lkG m5 q.1=some (i:Int)
 n:∀ q,q∈m4→q.1.app_.length≤1000000∧q.1.product_.length≤1000000
 z:m4.length≤k
theorem BI.mono {c:z0i} {l:List z0f} {k k':Nat} {m4:List (z0u×z0o)} {m5:List (z0u×Int)} (h:BI c l k m4 m5) (hk:k≤k'):BI c l k' m4 m5:=⟨h.d,h.s,h.w,h.n,Nat.le_trans h.z hk⟩
theorem x6c {c:z0i} {s:z0o} {x:z0f} (h:(fol c s x).2=true):(fol c s x).1.Since=x.At∧((fol c s x).1.State=1→x.Kind=1):=by
 unfold fol folF at *
 generalize askP c x=a at *
 split at h <;> rename_i k1
 ·rw [if_pos k1]
  split at h
  ·split at h
   ·simp at h
   ·rename_i h1 h2
    rw [if_pos h1,if_neg h2]
    exact ⟨rfl,fun _=>k1⟩
  ·rename_i h1
   rw [if_neg h1]
   split at h
   ·simp at h
   ·rename_i h2
    rw [if_neg h2]
    split <;> exact ⟨rfl,fun _=>k1⟩
 ·rw [if_neg k1]
  repeat' split
  all_goals (first | exact ⟨rfl,fun h=>by simp at h⟩ | (simp_all))
section
variable {c:z0i} {apps:List z0s} (hb:CB c) (hc:catF c=0)
include hb hc
theorem x5b {v3:Int} (L:List z0f):∀ (l:List z0f) (k:Nat) (m4:List (z0u×z0o)) (m5:List (z0u×Int)) (l6:List Int),(∀ j,l[j]?=L[k+j]?)→(∀ x,x∈l→EOk c apps x∧EB x)→BI c L k m4 m5→l6.length+l.length≤1000000 →
  ∃ m4' m5' l6',forL (fun (k:Nat) (x:z0f) (s:(List (z0u×z0o))×(List (z0u×Int))×(List Int))=>z5y c v3 k x s.1 s.2.1 s.2.2) (fun (s:(List (z0u×z0o))×(List (z0u×Int))×(List Int))=>z9u s.1 s.2.1 s.2.2) k l (m4,m5,l6)=some (z3a.mk m4' m5',l6')∧bk m4'=runS c (bk m4) (cutT v3 l)∧BI c L (k+l.length) m4' m5'
 | [],k,m4,m5,l6,_,_,hI,_=>⟨m4,m5,l6,by show z9u m4 m5 l6=_; unfold z9u z7y; rfl,rfl,hI⟩
 | x::l,k,m4,m5,l6,hL,hx,hI,hl=>by
  obtain ⟨x1,x2⟩:=hx x (by simp)
  have hxk:L[k]?=some x:=by have:=hL 0; simpa using this.symm
  simp only [List.length_cons] at hl
  have hL':∀ j,l[j]?=L[k+1+j]?:=fun j=>by have:=hL (j+1); rw [List.getElem?_cons_succ] at this; rw [this]; congr 1; omega
  by_cases hv:v3 < x.At
  ·refine ⟨m4,m5,l6,?_,?_,hI.mono (by omega)⟩
   ·show (z5y c v3 k x m4 m5 l6).bind _=_
    unfold z5y z7y
    rw [if_pos (by simpa using hv)]
    rfl
   ·have:cutT v3 (x::l)=[]:=by unfold cutT; rw [List.takeWhile_cons_of_neg (by simp; omega)]
    rw [this]; rfl
  ·have hcut:cutT v3 (x::l)=x::cutT v3 l:=by unfold cutT; rw [List.takeWhile_cons_of_pos (by simp; omega)]
   have e1:=w0g (z3a.mk m4 m5) x.App x.Product ⟨x2.a,x2.p⟩
   have hs:=hI.s x.App x.Product
   have e2:=w7d hb hc hs x1
   obtain ⟨f1,f2⟩:=w5w hs x1
   have b1:=x2.a
   have b2:=x2.p
   have hstep:z5y c v3 k x m4 m5 l6=if (fol c (bk m4 x.App x.Product) x).2=true then some (.inl (ptG m4 (z0u.mk x.App x.Product) (fol c (bk m4 x.App x.Product) x).1,(if x.Kind=1 then ptG m5 (z0u.mk x.App x.Product) (k:Int) else m5),l6)) else some (.inl (m4,m5,l6++[(k:Int)])):=by
    unfold z5y z7x
    rw [if_neg (by simp; omega),e1]
    simp only [Option.bind_some,e2]
    cases (fol c (bk m4 x.App x.Product) x).2
    ·simp; omega
    ·simp only [Bool.not_true,Bool.false_eq_true,if_false,if_true]
     rw [if_pos ⟨by omega,by omega⟩]
     by_cases k1:x.Kind=1
     ·rw [if_pos (by simpa using k1),if_pos ⟨by omega,by omega⟩,if_pos k1]
     ·rw [if_neg (by simpa using k1),if_neg k1]
   show ∃ m4' m5' l6',(z5y c v3 k x m4 m5 l6).bind _=_∧_∧_
   rw [hstep,hcut]
   cases hf:(fol c (bk m4 x.App x.Product) x).2
   ·simp only [Bool.false_eq_true,if_false,Option.bind_some,after]
    obtain ⟨m4',m5',l6',r1,r2,r3⟩:=x5b L l (k+1) m4 m5 (l6++[(k:Int)]) hL' (fun y hy=>hx y (by simp [hy])) (hI.mono (by omega)) (by simp; omega)
    refine ⟨m4',m5',l6',r1,?_,r3.mono (by simp; omega)⟩
    rw [r2]
    simp [runS,hf]
   ·simp only [if_true,Option.bind_some,after]
    obtain ⟨g1,g2⟩:=x6c hf
    have hI':BI c L (k+1) (ptG m4 (z0u.mk x.App x.Product) (fol c (bk m4 x.App x.Product) x).1) (if x.Kind=1 then ptG m5 (z0u.mk x.App x.Product) (k:Int) else m5):=by
     refine ⟨x8h _ _ hI.d,by rw [w8z]; exact w7v hI.s f1,fun q hq hq1 => ?_,fun q hq => ?_,by have h1:=w6t m4 (z0u.mk x.App x.Product) (fol c (bk m4 x.App x.Product) x).1; have h2:=hI.z; omega⟩
     ·have hlk:=w62 (x8h (z0u.mk x.App x.Product) (fol c (bk m4 x.App x.Product) x).1 hI.d) hq
      rw [x54] at hlk
      by_cases hk:z0u.mk x.App x.Product=q.1
      ·rw [if_pos hk] at hlk
       have hv2:(fol c (bk m4 x.App x.Product) x).1=q.2:=Option.some.inj hlk
       have hkind:=g2 (by rw [hv2]; exact hq1)
       refine ⟨k,x,hxk,by rw [← hk],by rw [← hk],hkind,by rw [← hv2,g1],?_⟩
       rw [if_pos hkind,x54,if_pos hk]
      ·rw [if_neg hk] at hlk
       obtain ⟨i,y,y1,y2,y3,y4,y5,y6⟩:=hI.w q (w1w hlk) hq1
       refine ⟨i,y,y1,y2,y3,y4,y5,?_⟩
       split
       ·rw [x54,if_neg hk]; exact y6
       ·exact y6
     ·rcases w1k m4 _ _ q hq with rfl | h | h
      ·exact ⟨b1,b2⟩
      ·exact hI.n q h.1
      ·exact hI.n q h
    obtain ⟨m4',m5',l6',r1,r2,r3⟩:=x5b L l (k+1) _ _ l6 hL' (fun y hy=>hx y (by simp [hy])) hI' (by omega)
    refine ⟨m4',m5',l6',r1,?_,r3.mono (by simp; omega)⟩
    rw [r2,w8z]
    simp [runS,hf]
theorem w7l {v3:Int} (l:List z0f) (hx:∀ x,x∈l→EOk c apps x∧EB x) (hl:l.length≤100000):∃ m4 m5 l6,y0l c l v3=some (z3a.mk m4 m5,l6)∧bk m4=runS c (fun _ _=>y26) (cutT v3 l)∧BI c l l.length m4 m5:=by
 unfold y0l
 rw [if_pos (by omega)]
 have e:bk ([]:List (z0u×z0o))=fun _ _=>y26:=by funext a p; rfl
 obtain ⟨m4,m5,l6,h1,h2,h3⟩:=x5b (v3:=v3) hb hc l l 0 [] [] [] (fun j=>by simp) hx ⟨by simp,fun a p=>by rw [e]; exact w1b,by simp,by simp,by simp⟩ (by simp; omega)
 rw [e] at h2
 exact ⟨m4,m5,l6,h1,h2,h3.mono (by omega)⟩
end
theorem x3k {a b c d e f:Bs} (h1:cmp2 a b c d < 0) (h2:cmp2 c d e f < 0):cmp2 a b e f < 0:=by
 unfold cmp2 at *
 by_cases e1:cmpL a c=0
 ·have:=(y37 _ _).1 e1
  subst this
  rw [if_neg (by simpa using e1)] at h1
  by_cases e2:cmpL a e=0
  ·rw [if_neg (by simpa using e2)] at h2 ⊢
   exact y7i _ _ _ h1 h2
  ·rw [if_pos e2] at h2 ⊢; exact h2
 ·rw [if_pos e1] at h1
  by_cases e2:cmpL c e=0
  ·have:=(y37 _ _).1 e2
   subst this
   rw [if_pos e1]; exact h1
  ·rw [if_pos e2] at h2
   have h3:=y7i _ _ _ h1 h2
   rw [if_pos (by omega)]; exact h3
theorem w1p {x y z:z0f} (h1:orE x y < 0) (h2:orE y z < 0):orE x z < 0:=by
 unfold orE or3 at *
 by_cases a1:x.At < y.At
 ·by_cases a2:y.At < z.At
  ·rw [if_pos (by omega)]; omega
  ·rw [if_neg a2] at h2
   by_cases a3:z.At < y.At
   ·rw [if_pos a3] at h2; omega
   ·rw [if_pos (by omega)]; omega
 ·rw [if_neg a1] at h1
  by_cases a2:y.At < x.At
  ·rw [if_pos a2] at h1; omega
  ·rw [if_neg a2] at h1
   by_cases a3:y.At < z.At
   ·rw [if_pos (by omega)]; omega
   ·rw [if_neg a3] at h2
    by_cases a4:z.At < y.At
    ·rw [if_pos a4] at h2; omega
    ·rw [if_neg a4] at h2
     rw [if_neg (by omega),if_neg (by omega)]
     exact x3k h1 h2
theorem w6s {l:List z0f} (h:∀ k x,l[k]?=some x→y7e l k x=false):l.Pairwise fun x y=>orE x y < 0:=by
 have key:∀ (n k:Nat) (x y:z0f),l[k]?=some x→l[k+n+1]?=some y→orE x y < 0:=by
  intro n
  induction n with
  | zero =>
   intro k x y hx hy
   have:=h (k+0+1) y hy
   unfold y7e at this
   simp [hx] at this
   exact this
  | succ n ih =>
   intro k x y hx hy
   obtain ⟨z,hz⟩:∃ z,l[k+n+1]?=some z:=⟨_,List.getElem?_eq_getElem (by have:=z9l hy; omega)⟩
   have h1:=ih k x z hx hz
   have h2:=h (k+(n+1)+1) y hy
   unfold y7e at h2
   have e:k+(n+1)+1 - 1=k+n+1:=by omega
   rw [e,hz] at h2
   simp at h2
   exact w1p h1 h2
 refine List.pairwise_iff_getElem.2 fun i j hi hj hij => ?_
 obtain ⟨n,rfl⟩:∃ n,j=i+n+1:=⟨j - i - 1,by omega⟩
 exact key n i _ _ (List.getElem?_eq_getElem hi) (List.getElem?_eq_getElem hj)
theorem w8j {x y:z0f} (h:orE x y < 0):x.At≤y.At:=by
 unfold orE or3 at h
 by_cases h1:x.At < y.At
 ·omega
 ·rw [if_neg h1] at h
  by_cases h2:y.At < x.At
  ·rw [if_pos h2] at h; omega
  ·omega
theorem w2t {v:Int} {l:List z0f} (h:l.Pairwise fun x y=>orE x y < 0):∃ r,l=cutT v l++r∧∀ x,x∈r→v < x.At:=by
 induction l with
 | nil=>exact ⟨[],rfl,by simp⟩
 | cons x l ih =>
  obtain ⟨h1,h2⟩:=List.pairwise_cons.1 h
  by_cases hv:x.At≤v
  ·obtain ⟨r,r1,r2⟩:=ih h2
   refine ⟨r,?_,r2⟩
   have:cutT v (x::l)=x::cutT v l:=by unfold cutT; rw [List.takeWhile_cons_of_pos (by simpa using hv)]
   rw [this,List.cons_append,← r1]
  ·refine ⟨x::l,?_,fun y hy => ?_⟩
   ·have:cutT v (x::l)=[]:=by unfold cutT; rw [List.takeWhile_cons_of_neg (by simpa using hv)]
    rw [this]; rfl
   ·rcases List.mem_cons.1 hy with rfl | hy
    ·omega
    ·have:=w8j (h1 y hy); omega
theorem x1w (c:z0i) (a p:Bs):∀ (l r:List z0f) (st:Bs→Bs→z0o),stS c a p (st a p) (l++r)=stS c a p (st a p) l++stS c a p (runS c st l a p) r
 | [],r,st=>rfl
 | x::l,r,st=>by
  rw [List.cons_append]
  simp only [stS,runS]
  by_cases hp:x.App=a∧x.Product=p
  ·rw [if_pos hp,if_pos hp,hp.1,hp.2]
   cases hf:(fol c (st a p) x).2
   ·simp only [Bool.false_eq_true,if_false]
    exact x1w c a p l r st
   ·simp only [if_true]
    have:=x1w c a p l r (upS st a p (fol c (st a p) x).1)
    have e:upS st a p (fol c (st a p) x).1 a p=(fol c (st a p) x).1:=by unfold upS; rw [if_pos ⟨rfl,rfl⟩]
    rw [e] at this
    rw [List.cons_append,this]
  ·rw [if_neg hp,if_neg hp]
   cases hf:(fol c (st x.App x.Product) x).2
   ·simp only [Bool.false_eq_true,if_false]
    exact x1w c a p l r st
   ·simp only [if_true]
    have:=x1w c a p l r (upS st x.App x.Product (fol c (st x.App x.Product) x).1)
    have e:upS st x.App x.Product (fol c (st x.App x.Product) x).1 a p=st a p:=by unfold upS; rw [if_neg (fun h=>hp ⟨h.1.symm,h.2.symm⟩)]
    rw [e] at this
    exact this
theorem y9p (c:z0i) (a p:Bs):∀ (l:List z0f) (st:Bs→Bs→z0o),(st a p::stS c a p (st a p) l).getLast?=some (runS c st l a p)
 | [],st=>rfl
 | x::l,st=>by
  simp only [stS,runS]
  by_cases hp:x.App=a∧x.Product=p
  ·rw [if_pos hp,hp.1,hp.2]
   cases hf:(fol c (st a p) x).2
   ·simp only [Bool.false_eq_true,if_false]
    exact y9p c a p l st
   ·simp only [if_true]
    have:=y9p c a p l (upS st a p (fol c (st a p) x).1)
    have e:upS st a p (fol c (st a p) x).1 a p=(fol c (st a p) x).1:=by unfold upS; rw [if_pos ⟨rfl,rfl⟩]
    rw [e] at this
    rw [List.getLast?_cons_cons]
    exact this
  ·rw [if_neg hp]
   cases hf:(fol c (st x.App x.Product) x).2
   ·simp only [Bool.false_eq_true,if_false]
    exact y9p c a p l st
   ·simp only [if_true]
    have:=y9p c a p l (upS st x.App x.Product (fol c (st x.App x.Product) x).1)
    have e:upS st x.App x.Product (fol c (st x.App x.Product) x).1 a p=st a p:=by unfold upS; rw [if_neg (fun h=>hp ⟨h.1.symm,h.2.symm⟩)]
    rw [e] at this
    exact this
theorem x1v (c:z0i) (a p:Bs):∀ (l:List z0f) (s:z0o) (z:z0o),z∈stS c a p s l→∃ x,x∈l∧z.Since=x.At
 | [],s,z,h=>by simp [stS] at h
 | x::l,s,z,h=>by
  simp only [stS] at h
  have up:∀ s,z∈stS c a p s l→∃ y,y∈x::l∧z.Since=y.At:=fun s hz=>by
   obtain ⟨y,y1,y2⟩:=x1v c a p l s z hz
   exact ⟨y,by simp [y1],y2⟩
  split at h
  ·split at h
   ·rename_i hf
    rcases List.mem_cons.1 h with rfl | h
    ·exact ⟨x,by simp,(x6c hf).1⟩
    ·exact up _ h
   ·exact up _ h
  ·exact up _ h
theorem x6f (v:Int) (zs:List z0o):∀ n,n≤zs.length→back (fun (k:Nat) (x:z0o) (s:Unit)=>y15 v k x) (fun (s:Unit)=>y16) zs n ()=some (((zs.take n).reverse.find? fun z=>decide (z.Since≤v)).getD y26)
 | 0,_=>by simp [back,y16,z9h,y26]
 | n+1,h=>by
  obtain ⟨z,hz⟩:∃ z,zs[n]?=some z:=⟨_,List.getElem?_eq_getElem (by omega)⟩
  have e:zs.take (n+1)=zs.take n++[z]:=by rw [List.take_add_one,hz]; rfl
  rw [e,List.reverse_append]
  show (zs[n]?).bind _=_
  rw [hz]
  simp only [Option.bind_some,y15,List.reverse_cons,List.reverse_nil,List.nil_append,List.singleton_append]
  by_cases hv:z.Since≤v
  ·rw [if_pos (by simpa using hv),List.find?_cons_of_pos (by simpa using hv)]
   rfl
  ·rw [if_neg (by simpa using hv),List.find?_cons_of_neg (by simpa using hv)]
   exact x6f v zs n (by omega)
section
variable {c:z0i} {apps:List z0s} (hb:CB c) (hc:catF c=0)
include hb hc
theorem w3s {v:Int} (hv:0≤v) (l:List z0f) (hx:∀ x,x∈l→EOk c apps x) (hr:l.Pairwise fun x y=>orE x y < 0) (hl:l.length≤100000) (a p:Bs):y07 c l a p v=some (runS c (fun _ _=>y26) (cutT v l) a p):=by
 obtain ⟨r,r1,r2⟩:=w2t (v:=v) hr
 have hlen:∀ (l:List z0f) (s:z0o),(stS c a p s l).length≤l.length:=by
  intro l
  induction l with
  | nil=>intro s; simp [stS]
  | cons x l ih =>
   intro s
   simp only [stS]
   split
   ·split
    ·have:=ih (fol c s x).1; simp only [List.length_cons]; omega
    ·have:=ih s; simp only [List.length_cons]; omega
   ·have:=ih s; simp only [List.length_cons]; omega
 unfold y07
 rw [w08 hb hc l a p hx hl]
 simp only [Option.bind_some]
 have h0:=hlen l y26
 rw [if_pos (by simp only [List.length_cons]; omega),x6f v _ _ (Nat.le_refl _),List.take_length]
 congr 1
 have e1:stS c a p y26 l=stS c a p y26 (cutT v l)++stS c a p (runS c (fun _ _=>y26) (cutT v l) a p) r:=by
  conv=>lhs; rw [r1]
  exact x1w c a p (cutT v l) r (fun _ _=>y26)
 have e2:=y9p c a p (cutT v l) (fun _ _=>y26)
 rw [e1,← List.cons_append,List.reverse_append,List.find?_append]
 have e3:(stS c a p (runS c (fun _ _=>y26) (cutT v l) a p) r).reverse.find? (fun z=>decide (z.Since≤v))=none:=by
  rw [List.find?_eq_none]
  intro z hz
  obtain ⟨x,x1,x2⟩:=x1v c a p r _ z (List.mem_reverse.1 hz)
  have:=r2 x x1
  simp; omega
 rw [e3,Option.none_or]
 generalize hzs:y26::stS c a p y26 (cutT v l)=zs at e2
 have e4:zs.reverse.head?=some (runS c (fun _ _=>y26) (cutT v l) a p):=by rw [List.head?_reverse]; exact e2
 cases hrev:zs.reverse with
 | nil=>rw [hrev] at e4; cases e4
 | cons z t =>
  rw [hrev] at e4
  have hz:z=runS c (fun _ _=>y26) (cutT v l) a p:=by simpa using e4
  have hmem:z∈zs:=List.mem_reverse.1 (by rw [hrev]; simp)
  have hs:z.Since≤v:=by
   rw [← hzs] at hmem
   rcases List.mem_cons.1 hmem with rfl | hmem
   ·exact hv
   ·obtain ⟨x,x1,x2⟩:=x1v c a p (cutT v l) _ z hmem
    have:=(x8y x1).2
    omega
  rw [List.find?_cons_of_pos (by simpa using hs),hz]
  rfl
end
end Go.Proofs.YthmmalklamiefaaGreatDoor
