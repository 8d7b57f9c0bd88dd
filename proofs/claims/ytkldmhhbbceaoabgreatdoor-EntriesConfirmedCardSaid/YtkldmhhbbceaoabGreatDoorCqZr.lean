/- Plain: streams of requests and responses for caches. -/
import Derived.Test.YtkldmhhbbceaoabGreatDoorNmZr
namespace Go.Proofs.YtkldmhhbbceaoabGreatDoor
set_option linter.unusedVariables false
set_option maxRecDepth 20000
abbrev ddL:Bs:=[48,49,50,51,52,53,54,55,56,57]
def isD (c:UInt8):Bool:=ddL.contains c
def dv (c:UInt8):Nat:=c.toNat - 48
def dgD (n:Nat):UInt8:=UInt8.ofNat (48+n)
theorem y05 (c:UInt8) (h:isD c=true):dgD (dv c)=c∧dv c < 10∧(dv c=0→c=48)∧48≤c.toNat∧c.toNat≤57:=by
 have:=kf (fun c => !isD c || decide (dgD (dv c)=c∧dv c < 10∧(dv c=0→c=48)∧48≤c.toNat∧c.toNat≤57)) (by decide +kernel) c
 rw [h] at this
 exact of_decide_eq_true (by simpa only [Bool.not_true,Bool.false_or] using this)
def nvB (l:Bs):Nat:=l.foldl (fun a c=>a * 10+dv c) 0
theorem x0x (l:Bs) (c:UInt8):nvB (l++[c])=nvB l * 10+dv c:=by simp [nvB,List.foldl_append]
theorem x0y:∀ (k:Nat) (s:Bs),s.all isD=true→s.length≤k→nvB s < 10 ^ k:=by
 intro k
 induction k with
 | zero=>intro s _ h; obtain rfl:s=[]:=List.length_eq_zero_iff.1 (by omega); decide
 | succ k ih =>
  intro s
  refine z84 (P:=fun s=>s.all isD=true→s.length≤k+1→nvB s < 10 ^ (k+1)) (fun _ _=>Nat.pow_pos (by decide)) (fun p d _ h1 h2 => ?_) s
  simp only [List.all_append,List.all_cons,List.all_nil,Bool.and_true,Bool.and_eq_true] at h1
  have h3:=ih p h1.1 (by simp at h2; omega)
  have h4:=(y05 d h1.2).2.1
  rw [x0x,Nat.pow_succ]
  omega
theorem atL (E:Int→Option (Int×Int)):∀ (s:Bs) (k j v:Nat),s.all isD=true→j+s.length≤18→v < 10 ^ j →
  forL (fun (k:Nat) (x:Int) (q:Int)=>z11 k x q) E k (vf s) (v:Int)=E ((s.foldl (fun a c=>a * 10+dv c) v:Nat):Int)
 | [],k,j,v,_,_,_=>rfl
 | c::s,k,j,v,h,hj,hv=>by
  simp only [List.all_cons,Bool.and_eq_true] at h
  simp only [List.length_cons] at hj
  obtain ⟨_,hd,_,hc1,hc2⟩:=y05 c h.1
  have h9:10 ^ j≤10 ^ 17:=Nat.pow_le_pow_right (by decide) (by omega)
  have e17:(10:Nat) ^ 17=100000000000000000:=by decide
  have ew:IntKind.wrap .u8 ((c.toNat:Int) - 48)=(dv c:Int):=by
   have:=kf (fun c => !isD c || decide (IntKind.wrap .u8 ((c.toNat:Int) - 48)=(dv c:Int))) (by decide +kernel) c
   rw [h.1] at this
   exact of_decide_eq_true (by simpa only [Bool.not_true,Bool.false_or] using this)
  have ei:IntKind.wrap .i64 (dv c:Int)=(dv c:Int):=jc (by omega)
  have e1:wr ((v:Int) * 10)=(v:Int) * 10:=jc (by omega)
  have e2:wr ((v:Int) * 10+(dv c:Int))=((v * 10+dv c:Nat):Int):=by rw [jc (by omega)]; omega
  show (z11 k (c.toNat:Int) (v:Int)).bind _=_
  unfold z11
  rw [ew,if_neg (by simp; omega),ei,e1,e2]
  simp only [Option.bind_some,after]
  exact (atL E s (k+1) (j+1) (v * 10+dv c) h.2 (by omega) (by rw [Nat.pow_succ]; omega)).trans rfl
theorem atJ (s t:Bs) (ht:t.all isD=true) (hl:t.length≤17):Qo s t=Qp s (nvB t:Int):=by
 unfold Qo
 rw [if_pos (by rw [x0z]; omega)]
 exact atL (fun q=>Qp s q) t 0 0 0 ht (by omega) (by decide)
theorem d43 (c:UInt8) (h:isD c=true):(c.toNat:Int)≠45∧(c.toNat:Int)≠43:=by
 have:=(y05 c h).2.2.2
 omega
theorem x5o (t:Bs) (ht:t.all isD=true) (hne:t≠[]) (hl:t.length≤17):xh t=some ((nvB t:Int),0):=by
 have hi:Yy t=some ((nvB t:Int),0):=by
  cases t with
  | nil=>exact absurd rfl hne
  | cons c r =>
   have hc:isD c=true:=by simp only [List.all_cons,Bool.and_eq_true] at ht; exact ht.1
   have h4:=d43 c hc
   unfold Yy
   rw [if_pos (by simp at hl ⊢; omega)]
   simp only [List.getElem?_cons_zero,Option.bind_some]
   rw [if_neg (by simpa using h4.1)]
   unfold Qn
   rw [if_neg (by simpa using h4.2),atJ _ _ ht hl]
   unfold Qp Qm
   simp only [List.getElem?_cons_zero,Option.bind_some]
   rw [if_neg (by simpa using h4.1)]
 unfold xh
 rw [hi]; rfl
theorem x5p (t:Bs) (ht:t.all isD=true) (hne:t≠[]) (hl:t.length≤17):xh (45::t)=some (-(nvB t:Int),0):=by
 have hln:1≤t.length:=by cases t with | nil=>exact absurd rfl hne | cons _ _=>simp
 have hv:=x0y 17 t ht hl
 have e17:(10:Nat) ^ 17=100000000000000000:=by decide
 have hi:Yy (45::t)=some (-(nvB t:Int),0):=by
  have hsub:sub? ((45:UInt8)::t) 1 (((45:UInt8)::t).length:Int)=some t:=by
   unfold sub?
   rw [if_pos (by simp only [List.length_cons]; omega),List.take_of_length_le (by simp)]; rfl
  unfold Yy
  rw [if_pos (by simp at hl ⊢; omega)]
  simp only [List.getElem?_cons_zero,Option.bind_some]
  rw [if_pos (by decide)]
  unfold Qn
  rw [if_pos rfl,hsub]
  simp only [Option.bind_some]
  rw [if_neg (by simp; omega),atJ _ _ ht hl]
  unfold Qp Qm
  simp only [List.getElem?_cons_zero,Option.bind_some]
  rw [if_pos (by decide),if_pos (by omega)]
 unfold xh
 rw [hi]; rfl
def tlB (s:Bs):Bs:=Lib.trimPrefix s [45]
def valB (s:Bs):Int:=if s.head?=some 45 then -(nvB (tlB s):Int) else (nvB s:Int)
def okN (m:Nat) (s:Bs):Bool:=(tlB s).all isD && (decide (tlB s≠[]∧(tlB s).length≤m) && decide ((tlB s).head?≠some 48∨s=[48]))
theorem y2e (c:UInt8) (r:Bs):tlB (c::r)=if c=45 then r else c::r:=by
 unfold tlB Lib.trimPrefix Lib.hasPrefix
 by_cases h:c=45
 ·subst h; simp [List.isPrefixOf]
 ·have:((45:UInt8) == c)=false:=by simpa using fun e:(45:UInt8)=c=>h e.symm
  simp [List.isPrefixOf,this,h]
theorem y7b (r:Bs):valB (45::r)=-(nvB r:Int):=by simp [valB,y2e]
theorem y7a (c:UInt8) (r:Bs) (h:c≠45):valB (c::r)=(nvB (c::r):Int):=by simp [valB,h]
theorem x5n (s:Bs) (ht:(tlB s).all isD=true) (hne:tlB s≠[]) (hl:(tlB s).length≤17):xh s=some (valB s,0):=by
 cases s with
 | nil=>exact absurd rfl hne
 | cons c r =>
  rw [y2e] at ht hne hl
  by_cases h:c=45
  ·subst h
   rw [if_pos rfl] at ht hne hl
   rw [y7b]
   exact x5p r ht hne hl
  ·rw [if_neg h] at ht hne hl
   rw [y7a c r h]
   exact x5o (c::r) ht hne hl
theorem y5v {α ρ:Type} {body:Nat→α→Unit→Option (Unit ⊕ ρ)} {fin:Unit→Option ρ} {p:α→Bool} {r0:ρ} (h:∀ j x,body j x ()=if p x then some (.inl ()) else some (.inr r0)):∀ (l:List α) (k:Nat),l.all p=false→forL body fin k l ()=some r0
 | [],k,hl=>by cases hl
 | x::l,k,hl=>by
  show (body k x ()).bind _=_
  rw [h k x]
  cases hp:p x
  ·simp [after]
  ·rw [List.all_cons,hp,Bool.true_and] at hl
   simp only [if_true,Option.bind_some,after]
   exact y5v h l (k+1) hl
theorem y72 (s:Bs):(tlB s).length≤s.length:=by
 unfold tlB Lib.trimPrefix
 split
 ·simp
 ·exact Nat.le_refl _
theorem x1j (s:Bs) (m:Nat) (hm:m≤17) (hs:s.length≤1000000):z1a s (m:Int)=some (if okN m s then valB s else 0,okN m s):=by
 have hJ:ka s (tlB s) true=some (0,false):=rfl
 have htl:=y72 s
 have hb:∀ (j:Nat) (x:UInt8),z4j j x=if isD x then some (.inl ()) else some (.inr (0,false)):=fun j x=>by
  have:=kf (fun x=>decide (z4j 0 x=if isD x then some (.inl ()) else some (.inr (0,false)))) (by decide +kernel) x
  exact of_decide_eq_true this
 unfold z1a z3k
 simp only [Option.bind_some]
 show (if decide (tlB s=[]) then ka s (tlB s) true else if decide ((m:Int) < ((tlB s).length:Int)) then ka s (tlB s) true else ((tlB s)[0]?).bind fun x9=>if decide ((x9.toNat:Int)=48) then ka s (tlB s) (decide (s≠[48])) else ka s (tlB s) false)=_
 by_cases h0:tlB s=[]
 ·rw [if_pos (by simpa using h0),hJ]
  have:okN m s=false:=by unfold okN; rw [h0]; simp
  rw [this]; rfl
 rw [if_neg (by simpa using h0)]
 by_cases hl:m < (tlB s).length
 ·rw [if_pos (by simp; omega),hJ]
  have:okN m s=false:=by
   unfold okN
   rw [show decide (tlB s≠[]∧(tlB s).length≤m)=false from by simp; intro; omega]
   simp
  rw [this]; rfl
 rw [if_neg (by simp; omega)]
 have hlm:decide (tlB s≠[]∧(tlB s).length≤m)=true:=by simp only [decide_eq_true_eq]; exact ⟨h0,by omega⟩
 have hall:ka s (tlB s) false=some (if (tlB s).all isD then valB s else 0,(tlB s).all isD):=by
  unfold ka
  rw [if_neg (by simp),if_pos (by omega)]
  cases hd:(tlB s).all isD
  ·exact y5v (p:=isD) hb (tlB s) 0 hd
  ·have hf:z1s s=some (valB s,true):=by
    unfold z1s
    rw [x5n s hd h0 (by omega)]; rfl
   rw [Zz (fin:=fun (s_1:Unit)=>z1s s) (e:=(valB s,true)) (p:=fun _ c=>isD c) (r0:=(0,false)) hf (tlB s) 0 (fun j x _ _=>hb j x),z8n,hd]
   rfl
 cases hc:tlB s with
 | nil=>exact absurd hc h0
 | cons c r =>
  rw [hc] at hall hlm h0
  simp only [List.getElem?_cons_zero,Option.bind_some]
  have hok:okN m s=((c::r).all isD && decide ((c::r).head?≠some 48∨s=[48])):=by
   unfold okN
   rw [hc,hlm]; simp
  by_cases h48:c=48
  ·rw [if_pos (by rw [h48]; decide)]
   by_cases hs48:s=[48]
   ·rw [show decide (s≠[48])=false from by simpa using hs48,hall,hok]
    simp [hs48]
   ·rw [show decide (s≠[48])=true from by simpa using hs48]
    have:okN m s=false:=by rw [hok]; simp [h48,hs48]
    rw [this]; rfl
  ·have hcn:¬ ((c.toNat:Int)=48):=fun h=>h48 (UInt8.toNat_inj.1 (by simp; omega))
   rw [if_neg (by simpa using hcn),hall,hok]
   simp [h48]
theorem x47 (s:Bs) (c:UInt8):(Lib.cut s [c]).1.length≤s.length∧(Lib.cut s [c]).2.1.length≤s.length∧(∀ x,x∈(Lib.cut s [c]).1→x∈s)∧∀ x,x∈(Lib.cut s [c]).2.1→x∈s:=by
 unfold Lib.cut
 split
 ·exact ⟨by simp; omega,by simp,fun x hx=>List.mem_of_mem_take hx,fun x hx=>List.mem_of_mem_drop hx⟩
 ·exact ⟨Nat.le_refl _,by simp,fun x hx=>hx,fun x hx=>by cases hx⟩
theorem y28 (c:UInt8):∀ (s:Bs) (p:Bs),p∈spl c s→∀ x,x∈p→x∈s
 | [],p,h,x,hx=>by
  have:p=[]:=by simpa [spl] using h
  subst this; cases hx
 | b::l,p,h,x,hx=>by
  have ih:=y28 c l
  unfold spl at h
  split at h
  ·rcases List.mem_cons.1 h with rfl | h
   ·cases hx
   ·exact List.mem_cons_of_mem _ (ih p h x hx)
  ·split at h
   ·rename_i q ps hq
    rw [hq] at ih
    rcases List.mem_cons.1 h with rfl | h
    ·rcases List.mem_cons.1 hx with rfl | hx
     ·simp
     ·exact List.mem_cons_of_mem _ (ih q (by simp) x hx)
    ·exact List.mem_cons_of_mem _ (ih p (List.mem_cons_of_mem _ h) x hx)
   ·have:p=[b]:=by simpa using h
    subst this
    have:x=b:=by simpa using hx
    rw [this]; simp
theorem y7x (c:UInt8) (s:Bs):(trL c (trR c s)).length≤s.length∧∀ x,x∈trL c (trR c s)→x∈s:=by
 have h1:=y2d c s
 have h2:(trL c (trR c s)).Sublist (trR c s):=List.dropWhile_sublist _
 refine ⟨Nat.le_trans h2.length_le h1,fun x hx => ?_⟩
 have h3:=h2.subset hx
 unfold trR at h3
 have h4:=(List.dropWhile_sublist (l:=s.reverse) (· == c)).subset (List.mem_reverse.1 h3)
 exact List.mem_reverse.1 h4
theorem y5u {α σ ρ:Type} {body body':Nat→α→σ→Option (σ ⊕ ρ)} {fin fin':σ→Option ρ} {R:ρ→Prop} (I:Nat→σ→Prop):∀ (l:List α) (k:Nat) (s:σ),I k s →
  (∀ j x s,k≤j→l[j - k]?=some x→I j s→∃ q,body j x s=some q∧body' j x s=some q∧rd (I (j+1)) R q)→(∀ s,I (k+l.length) s→∃ r,fin s=some r∧fin' s=some r∧R r)→∃ r,forL body fin k l s=some r∧forL body' fin' k l s=some r∧R r
 | [],k,s,h0,hs,hf=>hf s h0
 | x::l,k,s,h0,hs,hf=>by
  obtain ⟨q,q1,q2,q3⟩:=hs k x s (Nat.le_refl _) (by simp) h0
  show ∃ r,(body k x s).bind _=some r∧(body' k x s).bind _=some r∧R r
  rw [q1,q2]
  cases q with
  | inl s' =>
   refine y5u I l (k+1) s' q3 (fun j y s hj hy hi=>hs j y s (by omega) ?_ hi) (fun s hi=>hf s ?_)
   ·obtain ⟨m,hm⟩:∃ m,j - k=m+1:=⟨j - k - 1,by omega⟩
    rw [hm,List.getElem?_cons_succ]
    have:j - (k+1)=m:=by omega
    rw [this] at hy; exact hy
   ·simp only [List.length_cons]
    have:k+(l.length+1)=k+1+l.length:=by omega
    rw [this]; exact hi
  | inr r=>exact ⟨r,rfl,rfl,q3⟩
def wc (n:Bs) (l:List zd):List Bs:=(l.filter (nmB n)).map fun x=>x.Value
theorem y1y (n:Bs) (hn:ascB n=true):∀ (l:List zd) (k:Nat) (q:List Bs),(∀ x,x∈l→nmOK x)→q.length+l.length≤1000 →
  forL (fun (k:Nat) (x:zd) (s:(List Bs))=>Yp n k x s) (fun (s:(List Bs))=>z63 s) k l q=some (q++wc n l)
 | [],k,q,_,_=>by show some q=_; simp [wc]
 | x::l,k,q,h,hl=>by
  simp only [List.length_cons] at hl
  have hst:Yp n k x q=some (.inl (if nmB n x then q++[x.Value] else q)):=by
   unfold Yp z0w
   rw [z6x x n (h x (by simp)) hn]
   simp only [Option.bind_some]
   cases nmB n x
   ·rfl
   ·simp only [if_true]; rw [if_pos (by omega)]
  show (Yp n k x q).bind _=_
  rw [hst]
  have ih:=y1y n hn l (k+1) (if nmB n x then q++[x.Value] else q) (fun y hy=>h y (List.mem_cons_of_mem _ hy)) (by split <;> first | omega | (simp only [List.length_append,List.length_cons,List.length_nil]; omega))
  refine Eq.trans ih ?_
  unfold wc
  rw [List.filter_cons]
  cases nmB n x <;> simp
theorem y1x (n:Bs) (hn:ascB n=true∧n.length≤100000):∀ (l:List zd) (k:Nat) (q:List Bs),(∀ x,x∈l→nmOK x)→q.length+l.length≤1000 →
  forL (fun (k:Nat) (x:zd) (s:(List Bs))=>Qv n k x s) (fun (s:(List Bs))=>z74 s) k l q=some (q++wc n l)
 | [],k,q,_,_=>by show some q=_; simp [wc]
 | x::l,k,q,h,hl=>by
  simp only [List.length_cons] at hl
  have hst:Qv n k x q=some (.inl (if nmB n x then q++[x.Value] else q)):=by
   unfold Qv z16
   rw [z8o x.Name n (h x (by simp)) hn]
   simp only [Option.bind_some]
   show (if nmB n x=true then _ else _)=_
   cases nmB n x
   ·rfl
   ·simp only [if_true]; rw [if_pos (by omega)]
  show (Qv n k x q).bind _=_
  rw [hst]
  have ih:=y1x n hn l (k+1) (if nmB n x then q++[x.Value] else q) (fun y hy=>h y (List.mem_cons_of_mem _ hy)) (by split <;> first | omega | (simp only [List.length_append,List.length_cons,List.length_nil]; omega))
  refine Eq.trans ih ?_
  unfold wc
  rw [List.filter_cons]
  cases nmB n x <;> simp
theorem z2z (l:List zd) (n:Bs) (hl:l.length≤1000) (h:∀ x,x∈l→nmOK x) (hn:ascB n=true∧n.length≤100000):kj l n=some (wc n l)∧uo l n=some (wc n l):=by
 constructor
 ·unfold kj
  rw [if_pos (by omega),y1y n hn.1 l 0 [] h (by simpa using hl)]; rfl
 ·unfold uo
  rw [if_pos (by omega),y1x n hn l 0 [] h (by simpa using hl)]; rfl
theorem y5z {s:Bs} (h:fldB s=true):rgB s 32 126=true:=by
 unfold fldB at h
 simp only [Bool.and_eq_true] at h
 exact h.2.1
section
end
theorem z83 (c x:UInt8) (l:Bs):spl c (x::l)=if x=c then []::spl c l else match spl c l with
  | p::ps=>(x::p)::ps
  | []=>[[x]]:=rfl
theorem y29 (c:UInt8) (b:Bs):∀ a:Bs,spl c (a++c::b)=spl c a++spl c b
 | []=>by
  rw [List.nil_append,z83,if_pos rfl]; rfl
 | x::a=>by
  rw [List.cons_append,z83,z83,y29 c b a]
  by_cases h:x=c
  ·rw [if_pos h,if_pos h]; rfl
  ·rw [if_neg h,if_neg h]
   cases hq:spl c a with
   | nil=>exact absurd hq (y9e c a)
   | cons p ps=>rfl
theorem z82 (c:UInt8):∀ l:List Bs,l≠[]→spl c (Lib.join l [c])=(l.map (spl c)).flatten
 | [],h=>absurd rfl h
 | [x],_=>by rw [Lib.join_one]; simp
 | x::y::l,_=>by
  have h:Lib.join (x::y::l) [c]=x++c::Lib.join (y::l) [c]:=by
   rw [Lib.join_cons,Lib.join_cons]
   simp [Lib.joinTail]
  rw [h,y29,z82 c (y::l) (by simp)]
  simp
def tfB (l:List Bs):List Bs:=(l.map fun p=>trL 32 (trR 32 p)).filter fun p=>decide (p≠[])
theorem z8v (a b:List Bs):tfB (a++b)=tfB a++tfB b:=by simp [tfB]
theorem z6c (l:List Bs):(tfB l).length≤l.length:=by
 unfold tfB
 have:=(List.filter_sublist (p:=fun p:Bs=>decide (p≠[])) (l:=l.map fun p=>trL 32 (trR 32 p))).length_le
 simpa using this
theorem y76 {l:List Bs} {p:Bs} (h:p∈tfB l):∃ q,q∈l∧p.length≤q.length∧∀ c,c∈p→c∈q:=by
 unfold tfB at h
 obtain ⟨q,h1,h2⟩:=List.mem_map.1 (List.mem_filter.1 h).1
 have:=y7x 32 q
 rw [h2] at this
 exact ⟨q,h1,this⟩
def ptsB (l:List Bs):List Bs:=tfB (l.map (spl 44)).flatten
theorem x0h {l:List Bs} {p:Bs} (h:p∈ptsB l):∃ v,v∈l∧p.length≤v.length∧∀ c,c∈p→c∈v:=by
 obtain ⟨q,h1,h2,h3⟩:=y76 h
 obtain ⟨x,h4,h5⟩:=List.mem_flatten.1 h1
 obtain ⟨v,h6,rfl⟩:=List.mem_map.1 h4
 have:=z3e 44 v q h5
 exact ⟨v,h6,by omega,fun c hc=>y28 44 v q h5 c (h3 c hc)⟩
def vlP (V:List Bs):Prop:=V.length≤1000∧∀ v,v∈V→v.length≤2000
theorem y3w:∀ (l:List Bs) (k:Nat) (q:List Bs),(∀ x,x∈l→x.length≤2000)→q.length+l.length≤100000000 →
  forL (fun (k:Nat) (x:Bs) (s:(List Bs))=>xb k x s) (fun (s:(List Bs))=>z0x s) k l q=some (.inl (q++tfB l))
 | [],k,q,_,_=>by show some (Sum.inl q)=_; simp [tfB]
 | x::l,k,q,h,hl=>by
  simp only [List.length_cons] at hl
  have hx:=h x (by simp)
  have hst:xb k x q=some (.inl (q++tfB [x])):=by
   unfold xb xd
   rw [z58 32 (by decide) x (by omega)]
   simp only [Option.bind_some]
   by_cases h0:trL 32 (trR 32 x)=[]
   ·rw [if_neg (by simpa using h0)]
    simp [tfB,h0]
   ·rw [if_pos (by simpa using h0),if_pos (by omega)]
    simp [tfB,h0]
  show (xb k x q).bind _=_
  rw [hst]
  have h1:=z6c [x]
  refine Eq.trans (y3w l (k+1) (q++tfB [x]) (fun y hy=>h y (List.mem_cons_of_mem _ hy)) (by simp only [List.length_append,List.length_cons,List.length_nil] at h1 ⊢; omega)) ?_
  rw [List.append_assoc,← z8v]; rfl
theorem z9n:∀ (l:List Bs) (k:Nat) (q:List Bs),(∀ x,x∈l→x.length≤2000)→q.length+l.length≤100000000 →
  forL (fun (k:Nat) (x:Bs) (s:(List Bs))=>Qt k x s) (fun (s:(List Bs))=>z71 s) k l q=some (q++tfB l)
 | [],k,q,_,_=>by show some q=_; simp [tfB]
 | x::l,k,q,h,hl=>by
  simp only [List.length_cons] at hl
  have hx:=h x (by simp)
  have hst:Qt k x q=some (.inl (q++tfB [x])):=by
   unfold Qt z14
   rw [z58 32 (by decide) x (by omega)]
   simp only [Option.bind_some]
   by_cases h0:trL 32 (trR 32 x)=[]
   ·rw [if_neg (by simpa using h0)]
    simp [tfB,h0]
   ·rw [if_pos (by simpa using h0),if_pos (by omega)]
    simp [tfB,h0]
  show (Qt k x q).bind _=_
  rw [hst]
  have h1:=z6c [x]
  refine Eq.trans (z9n l (k+1) (q++tfB [x]) (fun y hy=>h y (List.mem_cons_of_mem _ hy)) (by simp only [List.length_append,List.length_cons,List.length_nil] at h1 ⊢; omega)) ?_
  rw [List.append_assoc,← z8v]; rfl
theorem y3t (V:List Bs) (h:∀ v,v∈V→v.length≤2000):(V.map (spl 44)).flatten.length≤V.length * 2001∧∀ x,x∈(V.map (spl 44)).flatten→x.length≤2000:=by
 induction V with
 | nil=>simp
 | cons v V ih =>
  obtain ⟨h1,h2⟩:=ih fun x hx=>h x (List.mem_cons_of_mem _ hx)
  have h3:=z6i 44 v
  have h4:=h v (by simp)
  simp only [List.map_cons,List.flatten_cons,List.length_append,List.length_cons,Nat.succ_mul]
  refine ⟨by omega,fun x hx => ?_⟩
  rcases List.mem_append.1 hx with hx | hx
  ·have:=z3e 44 v x hx; omega
  ·exact h2 x hx
theorem y3x:∀ (V:List Bs) (k:Nat) (q:List Bs),(∀ v,v∈V→v.length≤2000)→q.length+V.length * 2001≤90000000 →
  forL (fun (k:Nat) (x:Bs) (s:(List Bs))=>xc k x s) (fun (s:(List Bs))=>z0y s) k V q=some (q++ptsB V)
 | [],k,q,_,_=>by show some q=_; simp [ptsB,tfB]
 | v::V,k,q,h,hl=>by
  simp only [List.length_cons,Nat.succ_mul] at hl
  have hv:=h v (by simp)
  have h3:=z6i 44 v
  have hst:xc k v q=some (.inl (q++tfB (spl 44 v))):=by
   unfold xc ky
   rw [if_pos ⟨by omega,by simp⟩,z6h]
   simp only [Option.bind_some]
   rw [if_pos (by omega)]
   exact y3w (spl 44 v) 0 q (fun x hx=>by have:=z3e 44 v x hx; omega) (by omega)
  show (xc k v q).bind _=_
  rw [hst]
  have h1:=z6c (spl 44 v)
  refine Eq.trans (y3x V (k+1) (q++tfB (spl 44 v)) (fun y hy=>h y (List.mem_cons_of_mem _ hy)) (by simp only [List.length_append]; omega)) ?_
  unfold ptsB
  rw [List.map_cons,List.flatten_cons,z8v,List.append_assoc]
theorem z9m (V:List Bs) (h:vlP V):Zk V=some (ptsB V):=by
 obtain ⟨h1,h2⟩:=h
 unfold Zk
 rw [if_pos (by omega),y3x V 0 [] h2 (by simp; omega)]; rfl
theorem x0p (V:List Bs) (h:vlP V):z3x V=some (ptsB V):=by
 obtain ⟨h1,h2⟩:=h
 have hj:=z4q 2000 [44] V h2
 have hl:V.length * (2000+([44]:Bs).length)≤1000 * 2001:=Nat.mul_le_mul h1 (by simp)
 have hp:=y3t V h2
 unfold z3x jx ky
 rw [if_pos ⟨by omega,by omega⟩]
 simp only [Option.bind_some]
 rw [if_pos ⟨by omega,by simp⟩,z6h]
 simp only [Option.bind_some]
 cases hV:V with
 | nil =>
  have e:spl 44 (Lib.join [] [44])=[[]]:=rfl
  rw [e,if_pos (by simp),z9n [[]] 0 [] (by simp) (by simp)]
  rfl
 | cons v V' =>
  rw [z82 44 (v::V') (by simp),← hV,if_pos (by omega),z9n _ 0 [] hp.2 (by have:=hp.1; simp only [List.length_nil]; omega)]
  rfl
def idxB (ns:List Bs) (nm:Bs):Int:=fdx (fun x=>decide (nm=x)) 0 ns
theorem y0q (ns:List Bs) (nm:Bs) (h:ns.length≤1000000000):Yt ns nm=some (idxB ns nm):=
 y0x ns (p:=fun x=>some (decide (nm=x))) (fun x=>decide (nm=x)) h fun _ _=>rfl
def aQ (n:Nat) (s:Bs):Bool:=ascB s && decide (s.length≤n)
theorem x5z {n:Nat} {s:Bs} (h:aQ n s=true):ascB s=true∧s.length≤n:=by
 unfold aQ at h
 simpa using h
theorem z6k {k:Int} {s:zn} (h:SB k s) (hk:k≤100000000) (n:Nat) (l:List Bs) (hl:l≠[]∧l.length≤1000) (hQ:l.all (aQ n)=true):Ok (wo s l) fun r=>(ascB r.1=true∧r.1.length≤n)∧SB (k+1) r.2:=
 y34 (ue h hk l hl) fun r hr=>⟨x5z (List.all_eq_true.1 hQ _ hr.1),hr.2⟩
def hdA (h:zd):Prop:=hdP h∧nmOK h
theorem x4d {l:List zd} {x:zd} (h:∀ y,y∈l→hdA y) (hx:hdA x):∀ y,y∈l++[x]→hdA y:=by
 intro y hy
 rcases List.mem_append.1 hy with hy | hy
 ·exact h y hy
 ·rw [List.mem_singleton.1 hy]; exact hx
theorem x4e {a b:Bs} (h1:ascB a=true∧a.length≤3000) (h2:b.length≤30000):hdA (zd.mk a b):=⟨⟨by show a.length≤_; omega,by show b.length≤_; omega⟩,h1.1,by show a.length≤_; omega⟩
theorem y98 (r:ya) (h:rqP r):Ok (xj r) fun e=>Qc r=some e:=by
 obtain ⟨p1,p2,p3,p4,p5,p6⟩:=h
 obtain ⟨b,q,e1,e2,e3⟩:=y5m p2
 have hh:=z13 r.Headers p6
 unfold xj Qc xe Qz
 rw [z4s,z6y,z1w _ (by omega),z8u _ (by omega),e1,e2,y3v _ (by omega),x0o _ (by omega),y3r _ (by omega),x0g _ (by omega),y52,z4t _ (by omega),hh.1,hh.2]
 simp only [Option.bind_some,e3]
 cases momP r.At
 ·exact yq rfl
 ·cases tokB r.Method
  ·exact yq rfl
  ·cases b
   ·exact yq rfl
   ·cases pthB r.Path
    ·exact yq rfl
    ·cases qryB r.Query
     ·exact yq rfl
     ·cases fldB r.From
      ·exact yq rfl
      ·simp only [if_true,Bool.not_true,Bool.false_eq_true,if_false,ne_eq,not_true_eq_false,decide_false]
       split
       ·exact yq rfl
       ·split <;> exact yq rfl
theorem y97 (r:zx) (h:hdsP r.Headers):Ok (ug r) fun e=>Qb r=some e:=by
 have hh:=z13 r.Headers h
 unfold ug Qb
 rw [z6t,y0r,hh.1,hh.2]
 simp only [Option.bind_some,Bool.not_not]
 split
 ·exact yq rfl
 ·split
  ·exact yq rfl
  ·split <;> exact yq rfl
def setG (n v:Bs):List zd→List zd
 | []=>[]
 | x::l=>if nmB n x then zd.mk x.Name v::l.filter (fun y => !nmB n y) else x::setG n v l
def stB (n v:Bs) (l:List zd):List zd:=if l.any (nmB n) then setG n v l else l++[zd.mk n v]
theorem z9e {n v:Bs} {x:zd} {l:List zd} (h:nmB n x=true):setG n v (x::l)=zd.mk x.Name v::l.filter (fun y => !nmB n y):=by
 show (if nmB n x then _ else _)=_
 rw [h]; rfl
theorem z9f {n v:Bs} {x:zd} {l:List zd} (h:nmB n x=false):setG n v (x::l)=x::setG n v l:=by
 show (if nmB n x then _ else _)=_
 rw [h]; rfl
theorem z9d (n v:Bs) (hn:ascB n=true):∀ (l:List zd) (k:Nat) (q:List zd),(∀ x,x∈l→nmOK x)→q.length+l.length≤1000000 →
  forL (fun (k:Nat) (x:zd) (s:Bool×(List zd))=>jh n v k x s.1 s.2) (fun (s:Bool×(List zd))=>xa n v s.1 s.2) k l (true,q)=some (q++l.filter fun y => !nmB n y)
 | [],k,q,_,_=>by
  show xa n v true q=_
  unfold xa Yl
  simp
 | x::l,k,q,h,hl=>by
  simp only [List.length_cons] at hl
  have hx:=z6x x n (h x (by simp)) hn
  cases hb:nmB n x
  ·have hst:jh n v k x true q=some (.inl (true,q++[x])):=by
    unfold jh um
    rw [hx]
    simp only [Option.bind_some,hb,Bool.not_false,if_true]
    rw [if_pos (by omega)]
   show (jh n v k x true q).bind _=_
   rw [hst]
   refine Eq.trans (z9d n v hn l (k+1) (q++[x]) (fun y hy=>h y (List.mem_cons_of_mem _ hy)) (by simp; omega)) ?_
   rw [List.filter_cons,hb]; simp
  ·have hst:jh n v k x true q=some (.inl (true,q)):=by
    unfold jh um
    rw [hx]
    simp only [Option.bind_some,hb,Bool.not_true,Bool.false_eq_true,if_false]
   show (jh n v k x true q).bind _=_
   rw [hst]
   refine Eq.trans (z9d n v hn l (k+1) q (fun y hy=>h y (List.mem_cons_of_mem _ hy)) (by omega)) ?_
   rw [List.filter_cons,hb]; simp
theorem y3d (n v:Bs) (hn:ascB n=true):∀ (l:List zd) (k:Nat) (q:List zd),(∀ x,x∈l→nmOK x)→q.length+l.length≤1000000 →
  forL (fun (k:Nat) (x:zd) (s:Bool×(List zd))=>jh n v k x s.1 s.2) (fun (s:Bool×(List zd))=>xa n v s.1 s.2) k l (false,q)=some (if l.any (nmB n) then q++setG n v l else (q++l)++[zd.mk n v])
 | [],k,q,_,hl=>by
  show xa n v false q=_
  unfold xa Yl
  rw [if_pos (show (!false)=true from rfl),if_pos (by simp at hl; omega)]
  simp
 | x::l,k,q,h,hl=>by
  simp only [List.length_cons] at hl
  have hx:=z6x x n (h x (by simp)) hn
  cases hb:nmB n x
  ·have hst:jh n v k x false q=some (.inl (false,q++[x])):=by
    unfold jh um
    rw [hx]
    simp only [Option.bind_some,hb,Bool.not_false,if_true]
    rw [if_pos (by omega)]
   show (jh n v k x false q).bind _=_
   rw [hst]
   refine Eq.trans (y3d n v hn l (k+1) (q++[x]) (fun y hy=>h y (List.mem_cons_of_mem _ hy)) (by simp; omega)) ?_
   rw [List.any_cons,hb,Bool.false_or,z9f hb]; simp
  ·have hst:jh n v k x false q=some (.inl (true,q++[zd.mk x.Name v])):=by
    unfold jh um
    rw [hx]
    simp only [Option.bind_some,hb,Bool.not_true,Bool.false_eq_true,if_false,Bool.not_false,if_true]
    rw [if_pos (by omega)]
   show (jh n v k x false q).bind _=_
   rw [hst]
   refine Eq.trans (z9d n v hn l (k+1) (q++[zd.mk x.Name v]) (fun y hy=>h y (List.mem_cons_of_mem _ hy)) (by simp; omega)) ?_
   rw [List.any_cons,hb,Bool.true_or,if_pos rfl,z9e hb]; simp
theorem y9i (l:List zd) (n v:Bs) (hl:l.length≤1000) (h:∀ x,x∈l→nmOK x) (hn:ascB n=true):z3p l n v=some (stB n v l):=by
 unfold z3p stB
 rw [if_pos (by omega),y3d n v hn l 0 [] h (by simp; omega)]
 simp only [List.nil_append]
theorem y3f (n v:Bs):∀ (l:List zd) (k:Nat),l.any (nmB n)=true→∃ (i:Nat) (x:zd),fdx (nmB n) k l=((k+i:Nat):Int)∧i < l.length∧l[i]?=some x∧setG n v l=l.take i++zd.mk x.Name v::(l.drop (i+1)).filter (fun y => !nmB n y)
 | [],k,h=>by cases h
 | x::l,k,h=>by
  cases hb:nmB n x
  ·rw [List.any_cons,hb,Bool.false_or] at h
   obtain ⟨i,y,h1,h2,h3,h4⟩:=y3f n v l (k+1) h
   refine ⟨i+1,y,?_,by simp; omega,by simpa using h3,?_⟩
   ·simp only [fdx,hb,Bool.false_eq_true,if_false,h1]; omega
   ·rw [z9f hb,h4]; simp
  ·refine ⟨0,x,?_,by simp,rfl,?_⟩
   ·simp [fdx,hb]
   ·rw [z9e hb]; simp
theorem y3q (l:List zd) (n:Bs) (hl:l.length≤1000000) (h:∀ x,x∈l→nmOK x) (hn:ascB n=true∧n.length≤100000):un l n=some (l.filter fun x => !nmB n x):=by
 unfold un wu
 rw [if_pos (by omega)]
 simp only [Option.bind_some]
 have e:z04 l (fun (a0:zd)=>Zn a0 n)=some (l.filter fun x => !nmB n x):=
  y5q (zd.mk [] []) l (p:=fun (a0:zd)=>Zn a0 n) (nmB n) (by omega) fun x hx=>by
   unfold Zn
   rw [z8o x.Name n (h x hx) hn]; rfl
 rw [e]; rfl
theorem y8f (l:List zd) (k:Nat) (h:k≤l.length):sub? l (k:Int) (l.length:Int)=some (l.drop k):=by
 unfold sub?
 rw [if_pos (by omega)]
 simp only [Int.toNat_natCast]
 rw [List.take_of_length_le (by simp)]
theorem y9j (l:List zd) (n v:Bs) (hl:l.length≤1000) (h:∀ x,x∈l→nmOK x) (hn:ascB n=true∧n.length≤100000):z1d l n v=some (stB n v l):=by
 have e:z3l l (fun (a0:zd)=>Qa a0 n)=some (fdx (nmB n) 0 l):=
  y0x l (p:=fun (a0:zd)=>Qa a0 n) (nmB n) (by omega) fun x hx=>by
   unfold Qa
   rw [z8o x.Name n (h x hx) hn]; rfl
 unfold z1d
 rw [e]
 simp only [Option.bind_some]
 rw [y56]
 unfold stB wu
 cases ha:l.any (nmB n)
 ·simp only [Bool.not_false,if_true,Bool.false_eq_true,if_false]
  rw [if_pos (by omega)]
  simp only [Option.bind_some]
  rw [if_pos (by omega)]
 ·obtain ⟨i,x,h1,h2,h3,h4⟩:=y3f n v l 0 ha
  rw [Nat.zero_add] at h1
  simp only [Bool.not_true,Bool.false_eq_true,if_false,if_true]
  rw [h1,y2k l i (by omega)]
  simp only [Option.bind_some]
  have hti:(l.take i).length=i:=by simp; omega
  have hf:=List.length_filter_le (fun y => !nmB n y) (l.drop (i+1))
  have hd:(l.drop (i+1)).length≤l.length:=by simp
  rw [if_pos (by omega),y6r,h3]
  simp only [Option.bind_some]
  rw [if_pos (by omega),show wr ((i:Int)+1)=((i+1:Nat):Int) by rw [jc (by omega)]; omega,y8f l (i+1) (by omega)]
  simp only [Option.bind_some]
  rw [y3q (l.drop (i+1)) n (by omega) (fun y hy=>h y (List.mem_of_mem_drop hy)) hn]
  simp only [Option.bind_some]
  rw [if_pos (by simp only [List.length_append,List.length_cons,List.length_nil]; omega),h4]
  simp
theorem y3e (n v:Bs):∀ (l:List zd),(setG n v l).length≤l.length∧∀ y,y∈setG n v l→y∈l∨∃ x,x∈l∧y=zd.mk x.Name v
 | []=>⟨Nat.le_refl _,fun y hy=>(by cases hy)⟩
 | x::l=>by
  obtain ⟨h1,h2⟩:=y3e n v l
  cases hb:nmB n x
  ·rw [z9f hb]
   refine ⟨by simp only [List.length_cons]; omega,fun y hy => ?_⟩
   rcases List.mem_cons.1 hy with rfl | hy
   ·exact .inl (by simp)
   ·rcases h2 y hy with h3 | ⟨z,h3,h4⟩
    ·exact .inl (List.mem_cons_of_mem _ h3)
    ·exact .inr ⟨z,List.mem_cons_of_mem _ h3,h4⟩
  ·rw [z9e hb]
   refine ⟨by have:=List.length_filter_le (fun y => !nmB n y) l; simp only [List.length_cons]; omega,fun y hy => ?_⟩
   rcases List.mem_cons.1 hy with rfl | hy
   ·exact .inr ⟨x,by simp,rfl⟩
   ·exact .inl (List.mem_cons_of_mem _ (List.mem_filter.1 hy).1)
theorem x37:z7u []=some false:=by decide +kernel
theorem y3p (r:ya) (h:rqP r):∃ e,xj r=some e∧Qc r=some e∧(e=0→hdsE r.Headers=0∧fldB r.From=true∧(r.Host.length≤2000∧r.Host≠[])):=by
 obtain ⟨e,e1,e2⟩:=y98 r h
 refine ⟨e,e1,e2,fun h0 => ?_⟩
 subst h0
 obtain ⟨p1,p2,p3,p4,p5,p6⟩:=h
 obtain ⟨b,q,c1,c2,c3⟩:=y5m p2
 have hh:=z13 r.Headers p6
 have hl:r.Host.length≤1000:=of_decide_eq_true (List.all_eq_true.1 y5l _ p2)
 have hne:b=true→r.Host≠[]:=fun hb hx=>by
  rw [hx,y5g [] (by simp),x37,hb] at c1
  cases c1
 unfold xj xe at e1
 rw [z4s,z1w _ (by omega),c1,y3v _ (by omega),y3r _ (by omega),z4t _ (by omega),hh.1] at e1
 simp only [Option.bind_some] at e1
 cases hm:momP r.At
 ·rw [hm] at e1; simp at e1
 ·cases ht:tokB r.Method
  ·rw [hm,ht] at e1; simp at e1
  ·cases b
   ·rw [hm,ht] at e1; simp at e1
   ·cases hp:pthB r.Path
    ·rw [hm,ht,hp] at e1; simp at e1
    ·cases hq:qryB r.Query
     ·rw [hm,ht,hp,hq] at e1; simp at e1
     ·cases hf:fldB r.From
      ·rw [hm,ht,hp,hq,hf] at e1; simp at e1
      ·rw [hm,ht,hp,hq,hf] at e1
       by_cases h0:hdsE r.Headers=0
       ·exact ⟨h0,rfl,by omega,hne rfl⟩
       ·simp [h0] at e1
theorem y58 (l:List zd) (h:l.length≤1000000000):z3n l l=some true:=
 x4h (fun x7 x10:zd => !((x7.Name == x10.Name) && ((x7.Value == x10.Value) && true))) (fun x=>by simp) l h
theorem y3i (a:ya) (h:a.Headers.length≤1000000000):z1e a a=some true:=by
 unfold z1e ua
 simp [y58 _ h]
section
variable {α β σ τ ρ ρ':Type}
section
variable {p:α→α→Option Int} {q:β→β→Option Int} {f:α→β}
end
end
def qOK (q:Bs):Prop:=(spl 38 q).length≤12∨((spl 38 q).filter fun x => !decide (x=[])).length=101
theorem y1q {k:Int} {s:zn} (h:SB k s) (hk:k≤1000000) (m:Nat) (hm:m≤1000) (sep:Bs) (hsep:sep.length≤10) (l:List Bs) (hl:l≠[]∧l.length≤1000) (hB:∀ x,x∈l→x.length≤20) :
  Ok (jo s (m:Int) sep l) fun r=>(∃ ws:List Bs,ws.length=m∧(∀ w,w∈ws→w∈l)∧r.1=Lib.join ws sep∧r.1.length≤30000)∧SB (k+m) r.2:=by
 unfold jo
 refine ok_g (by omega) ?_
 rw [Int.toNat_natCast]
 refine z6u (fun j (q:List Int×Int×List Bs)=>j≤m∧SB (k+(j:Int)) (zn.mk q.1 q.2.1)∧q.2.2.length=j∧∀ x,x∈q.2.2→x∈l) m 0 _ ⟨by omega,h.mono (by omega),by simp,by simp⟩ ?_ ?_
 ·rintro j ⟨c5,c6,l7⟩ _ hj ⟨h0,h1,h2,h3⟩
  simp only at h1 h2 h3 ⊢
  unfold z2h
  refine yb (ue h1 (by omega) l hl) fun r hr=>ok_g (by omega) (yq ?_)
  refine ⟨by omega,hr.2.mono (by omega),by simp; omega,fun x hx => ?_⟩
  rcases List.mem_append.1 hx with h | h
  ·exact h3 x h
  ·have:x=r.1:=by simpa using h
   rw [this]; exact hr.1
 ·rintro ⟨c5,c6,l7⟩ ⟨h0,h1,h2,h3⟩
  simp only at h1 h2 h3 ⊢
  have hj:=z4q 20 sep l7 fun x hx=>hB x (h3 x hx)
  have hmm:l7.length * (20+sep.length)≤1000 * 30:=Nat.mul_le_mul (by omega) (by omega)
  unfold z2i
  have hJ:jx l7 sep=some (Lib.join l7 sep):=by
   unfold jx
   rw [if_pos ⟨by omega,by omega⟩]
  rw [hJ]
  exact yq ⟨⟨l7,by omega,h3,rfl,by simp only; omega⟩,h1.mono (by omega)⟩
theorem y50:∀ l:List Bs,(∀ x,x∈l→(38:UInt8) ∉ x)→(l.map (spl 38)).flatten=l
 | [],_=>rfl
 | x::l,h=>by
  rw [List.map_cons,List.flatten_cons,y27 38 x (h x (by simp)),y50 l fun y hy=>h y (List.mem_cons_of_mem _ hy)]; rfl
theorem y26 (ws:List Bs) (h:∀ x,x∈ws→(38:UInt8) ∉ x) (hn:ws≠[]):spl 38 (Lib.join ws [38])=ws:=by
 rw [z82 38 ws hn,y50 ws h]
theorem x0f {k:Int} {s:zn} (h:SB k s) (hk:k≤100000):Ok (Qg s) fun r=>(r.1.length≤30000∧qOK r.1)∧SB (k+200) r.2:=by
 unfold Qg Wd
 refine yb (z0s h (by omega) 0 4 (by omega)) fun r hr => ?_
 obtain ⟨m,hm⟩:∃ m:Nat,r.1=(m:Int):=⟨r.1.toNat,by omega⟩
 rw [hm]
 refine yb (y1q hr.2 (by omega) m (by omega) [38] (by simp) _ ⟨by simp,by simp⟩ (by decide)) fun r2 h2=>yb (vd h2.2 (by omega) 12 (by omega)) fun r3 h3=>wb (fun _ => ?_) (fun _=>yq ⟨?_,?_⟩)
 ·refine yb (y1q h3 (by omega) 101 (by omega) [38] (by simp) [[120]] ⟨by simp,by simp⟩ (by decide)) fun r4 h4=>yb (ue h4.2 (by omega) _ ⟨by simp,by simp⟩) fun r5 h5=>yq ⟨?_,?_⟩
  ·obtain ⟨⟨ws,w1,w2,w3,w4⟩,_⟩:=h4
   have hx:∀ w,w∈ws→w=[120]:=fun w hw=>by simpa using w2 w hw
   have hq4:qOK r4.1:=by
    right
    rw [w3,y26 ws (fun x hx'=>by rw [hx x hx']; decide) (by rintro rfl; simp at w1)]
    have:(ws.filter fun x => !decide (x=[]))=ws:=List.filter_eq_self.2 fun w hw=>by rw [hx w hw]; rfl
    rw [this]; exact w1
   have hm:=h5.1
   simp only [List.mem_cons,List.not_mem_nil,or_false] at hm
   rcases hm with e | e | e | e | e | e <;> rw [e] <;> first | exact ⟨w4,hq4⟩ | exact ⟨by decide,.inl (by decide)⟩
  ·exact h5.2.mono (by omega)
 ·obtain ⟨⟨ws,w1,w2,w3,w4⟩,_⟩:=h2
  refine ⟨w4,.inl ?_⟩
  rw [w3]
  by_cases hn:ws=[]
  ·subst hn; decide
  ·have hno:∀ w:Bs,w∈([[97,61,49],[98,61,50],[97,61],[61,120],[61],[99],[],[97,61,37,52,49,43,37,50,66],[100,61,120,37,50,54,121],[98,61,37,99,51],[97,61,49,61,50],[97,63,98,61,47]]:List Bs)→(38:UInt8) ∉ w:=by decide
   rw [y26 ws (fun x hx=>hno x (w2 x hx)) hn,w1]; omega
 ·exact h3.mono (by omega)
theorem x05 {s:Bs} (h:ascB s=true∧s.length≤100000):jw s=some (lo s):=by
 unfold jw
 rw [if_pos ⟨by omega,h.1⟩]
def flN:List Bs:=[[110,111,45,115,116,111,114,101],[110,111,45,99,97,99,104,101],[112,114,105,118,97,116,101],[112,117,98,108,105,99],[109,117,115,116,45,114,101,118,97,108,105,100,97,116,101],[111,110,108,121,45,105,102,45,99,97,99,104,101,100]]
def cnN:List Bs:=[[109,97,120,45,97,103,101],[115,45,109,97,120,97,103,101],[115,116,97,108,101,45,119,104,105,108,101,45,114,101,118,97,108,105,100,97,116,101],[115,116,97,108,101,45,105,102,45,101,114,114,111,114],[109,97,120,45,115,116,97,108,101],[109,105,110,45,102,114,101,115,104]]
theorem y5i {ns:List Bs} {nm:Bs} (h:0≤idxB ns nm):∃ j:Nat,idxB ns nm=(j:Int)∧j < ns.length∧nm∈ns:=by
 obtain ⟨_,x,h2,h3⟩:=(z2n (fun x=>decide (nm=x)) ns 0).2 h
 refine ⟨(idxB ns nm).toNat,by omega,?_,?_⟩
 ·have:=(List.getElem?_eq_some_iff.1 h2).1
  exact this
 ·have e:nm=x:=by simpa using h3
  rw [e]; exact List.mem_of_getElem? h2
theorem x4l:∀ j:Nat,j < 6→at? ([0,1,2,3,4,5]:List Int) (j:Int)=some (j:Int)∧z8g (j:Int)=true:=by decide +kernel
theorem x5g:∀ j:Nat,j < 6→at? ([6,7,8,9,10,11]:List Int) (j:Int)=some (6+(j:Int))∧xw (6+(j:Int))=true:=by decide +kernel
def nOf (v:Bs):Int:=if okN 9 v then valB v else 0
def sOK (v:Bs):Bool:=okN 9 v && !outP (valB v) 0 100000000
theorem y9q (v:Bs) (h:v.length≤1000000):z4e v=some (nOf v,sOK v):=by
 have hk:z1a v 9=some (if okN 9 v then valB v else 0,okN 9 v):=x1j v 9 (by omega) h
 unfold z4e z3u z2t nOf sOK
 rw [hk]
 simp only [Option.bind_some]
 cases okN 9 v
 ·rfl
 ·simp only [if_true,z6t,Option.bind_some,Bool.true_and]
def numC (c:yn) (i n:Int):yn:=if Zu c (6+i)=-1∨n < Zu c (6+i) then z6g c (6+i) n else c
def uc (c:yn) (x:Bs):Bool×yn:=
 let r:=Lib.cut x [61]
 if !tokB r.1 || (r.2.2 && !sOK r.2.1) then (false,c)
 else if 0≤idxB flN (lo r.1) then (!r.2.2,z81 c (idxB flN (lo r.1)) true)
 else if idxB cnN (lo r.1) < 0 then (true,c)
 else (r.2.2,numC c (idxB cnN (lo r.1)) (nOf r.2.1))
theorem y70 (c:yn) (x:Bs) (h:x.length≤1000000):z1k c x=some (uc c x):=by
 obtain ⟨c1,c2,c3,c4⟩:=x47 x 61
 unfold z1k uc Zh
 rw [if_pos (by omega)]
 simp only [Option.bind_some]
 generalize Lib.cut x [61]=r at *
 rw [y9q _ (by omega),z1w _ (by omega)]
 simp only [Option.bind_some]
 cases ht:tokB r.1
 ·rfl
 simp only [Bool.not_true,Bool.false_or]
 cases hs:(r.2.2 && !sOK r.2.1)
 ·simp only [Bool.false_eq_true,if_false]
  have hlow:jw r.1=some (lo r.1):=by
   unfold jw
   rw [if_pos ⟨by omega,z6b ht⟩]
  have hf:z7h=some (flN,[0,1,2,3,4,5]):=rfl
  have hc:z4f=some (cnN,[6,7,8,9,10,11]):=rfl
  rw [hlow,hf,hc]
  simp only [Option.bind_some]
  rw [y0q flN (lo r.1) (by decide),y0q cnN (lo r.1) (by decide)]
  simp only [Option.bind_some]
  by_cases h0:0≤idxB flN (lo r.1)
  ·obtain ⟨j,j1,j2,_⟩:=y5i h0
   obtain ⟨a1,a2⟩:=x4l j j2
   rw [if_pos (by simpa using h0),if_pos h0,j1,a1]
   simp only [Option.bind_some]
   rw [if_pos a2]
  ·rw [if_neg (by simpa using h0),if_neg h0]
   by_cases h1:idxB cnN (lo r.1) < 0
   ·rw [if_pos (by simpa using h1),if_pos h1]
   ·rw [if_neg (by simpa using h1),if_neg h1]
    obtain ⟨j,j1,j2,_⟩:=y5i (show 0≤idxB cnN (lo r.1) by omega)
    obtain ⟨a1,a2⟩:=x5g j j2
    unfold z2q z2r numC
    rw [j1,a1]
    simp only [Option.bind_some,a2,if_true]
    by_cases hg:Zu c (6+(j:Int))=-1
    ·rw [if_pos (by simpa using hg),if_pos (Or.inl hg)]
    ·rw [if_neg (by simpa using hg)]
     by_cases hn:nOf r.2.1 < Zu c (6+(j:Int))
     ·rw [if_pos (by simpa using hn),if_pos (Or.inr hn)]
     ·rw [if_neg (by simpa using hn),if_neg (by simp [hg,hn])]
 ·simp
abbrev Tst:=Bool×Bool×Int×Int×Bool×Bool×Bool×Bool×Int×Int×Int×Int
def tc (s:Tst):yn:=yn.mk s.1 s.2.1 s.2.2.2.2.1 s.2.2.2.2.2.1 s.2.2.2.2.2.2.1 s.2.2.2.2.2.2.2.1 s.2.2.2.2.2.2.2.2.1 s.2.2.2.2.2.2.2.2.2.1 s.2.2.2.2.2.2.2.2.2.2.1 s.2.2.2.2.2.2.2.2.2.2.2 s.2.2.1 s.2.2.2.1
def ct (c:yn):Tst:=(c.NoStore,c.NoCache,c.MaxStale,c.MinFresh,c.Private,c.Public,c.Must,c.Only,c.MaxAge,c.Shared,c.Stale,c.OnError)
abbrev zzT:yn×Int:=(yn.mk false false false false false false 0 0 0 0 0 0,9)
def stT (c:yn) (x:Bs):Tst ⊕ (yn×Int):=if (uc c x).1 then .inl (ct (uc c x).2) else .inr zzT
theorem x0r (k:Nat) (x:Bs) (c:yn) (h:x.length≤1000000):z0e k x c.NoStore c.NoCache c.MaxStale c.MinFresh c.Private c.Public c.Must c.Only c.MaxAge c.Shared c.Stale c.OnError=some (stT c x):=by
 unfold z0e stT
 show (z1k c x).bind _=_
 rw [y70 c x h]
 simp only [Option.bind_some]
 cases (uc c x).1 <;> rfl
abbrev ccL:Bs:=[99,97,99,104,101,45,99,111,110,116,114,111,108]
abbrev c0:Tst:=(false,false,-1,-1,false,false,false,false,-1,-1,-1,-1)
theorem x0q (l:List zd):z1l l=z5j l false false (-1) (-1) false false false false (-1) (-1) (-1) (-1):=rfl
theorem y69 {l:List zd} (h0:hdsE l=0) (n:Bs):vlP (wc n l):=by
 have hcnt:=Qr h0
 have hok:=z5a h0
 refine ⟨?_,fun v hv => ?_⟩
 ·unfold wc
  rw [List.length_map]
  have:=(List.filter_sublist (p:=nmB n) (l:=l)).length_le
  omega
 ·unfold wc at hv
  obtain ⟨x,hx,rfl⟩:=List.mem_map.1 hv
  exact z8c (hok x (List.mem_filter.1 hx).1).2
theorem x0i (V:List Bs) (h:vlP V):(ptsB V).length≤3000000:=by
 have h1:=y3t V h.2
 have h2:=z6c (V.map (spl 44)).flatten
 have h3:V.length * 2001≤1000 * 2001:=Nat.mul_le_mul h.1 (by omega)
 unfold ptsB
 omega
theorem x1l:z1j=some true:=by
 have hcr:ug (zx.mk 200 [zd.mk ccL [109,97,120,45,97,103,101,61,50]] [])=some 0:=by
  have h1:=(z13 [zd.mk ccL [109,97,120,45,97,103,101,61,50]] ⟨by simp,fun h hh=>by rw [List.mem_singleton.1 hh]; exact ⟨by decide,by decide⟩⟩).1
  have h2:hdsE [zd.mk ccL [109,97,120,45,97,103,101,61,50]]=0:=by decide +kernel
  rw [h2] at h1
  unfold ug
  rw [z6t]
  simp only [Option.bind_some]
  rw [h1]
  rfl
 have hnm:∀ x,x∈[zd.mk ccL [109,97,120,45,97,103,101,61,50]]→nmOK x:=fun x hx=>by rw [List.mem_singleton.1 hx]; exact ⟨by decide +kernel,by decide⟩
 have hv:=(z2z [zd.mk ccL [109,97,120,45,97,103,101,61,50]] ccL (by simp) hnm ⟨rfl,by decide⟩).1
 have hv2:=(z2z [zd.mk ccL [109,97,120,45,97,103,101,61,50]] [118,97,114,121] (by simp) hnm ⟨rfl,by decide⟩).1
 have e1:wc ccL [zd.mk ccL [109,97,120,45,97,103,101,61,50]]=[[109,97,120,45,97,103,101,61,50]]:=by decide +kernel
 have e2:wc [118,97,114,121] [zd.mk ccL [109,97,120,45,97,103,101,61,50]]=[]:=by decide +kernel
 rw [e1] at hv
 rw [e2] at hv2
 have p1:=z9m [[109,97,120,45,97,103,101,61,50]] ⟨by simp,by simp⟩
 have p2:=z9m [] ⟨by simp,by simp⟩
 have e3:ptsB [[109,97,120,45,97,103,101,61,50]]=[[109,97,120,45,97,103,101,61,50]]:=by decide +kernel
 rw [e3] at p1
 have hpar:z1l [zd.mk ccL [109,97,120,45,97,103,101,61,50]]=some ((uc (tc c0) [109,97,120,45,97,103,101,61,50]).2,0):=by
  rw [x0q]
  unfold z5j
  show (kj _ ccL).bind _=_
  rw [hv]
  simp only [Option.bind_some]
  rw [p1]
  simp only [Option.bind_some]
  rw [if_pos (by simp)]
  have a:=x0r 0 [109,97,120,45,97,103,101,61,50] (tc c0) (by simp)
  show (z0e 0 [109,97,120,45,97,103,101,61,50] false false (-1) (-1) false false false false (-1) (-1) (-1) (-1)).bind _=_
  have a':z0e 0 [109,97,120,45,97,103,101,61,50] false false (-1) (-1) false false false false (-1) (-1) (-1) (-1)=some (stT (tc c0) [109,97,120,45,97,103,101,61,50]):=a
  rw [a']
  have e4:(uc (tc c0) [109,97,120,45,97,103,101,61,50]).1=true:=by decide +kernel
  unfold stT
  rw [e4]
  rfl
 have hvy:Zq (zx.mk 200 [zd.mk ccL [109,97,120,45,97,103,101,61,50]] [])=some ([],false,0):=by
  unfold Zq
  show (kj [zd.mk ccL [109,97,120,45,97,103,101,61,50]] [118,97,114,121]).bind _=_
  rw [hv2]
  simp only [Option.bind_some]
  rw [p2]
  have e0:ptsB []=[]:=rfl
  rw [e0]
  simp only [Option.bind_some]
  rw [if_pos (by simp)]
  show Yb []=_
  have hi:Yt [] [42]=some (-1):=rfl
  have hs:uf []=some []:=by
   unfold uf
   rw [if_pos (by simp)]
   simp
  unfold Yb z3o xk wu
  rw [hi]
  simp only [Option.bind_some]
  rw [if_neg (by simp),if_pos (by simp)]
  simp only [Option.bind_some]
  rw [hs]
  rfl
 have f1:(uc (tc c0) [109,97,120,45,97,103,101,61,50]).2.NoCache=false:=by decide +kernel
 have f2:(uc (tc c0) [109,97,120,45,97,103,101,61,50]).2.Shared=-1:=by decide +kernel
 have f3:(uc (tc c0) [109,97,120,45,97,103,101,61,50]).2.MaxAge=2:=by decide +kernel
 have hlt:z4g (uc (tc c0) [109,97,120,45,97,103,101,61,50]).2=some 2000:=by
  unfold z4g
  rw [f1,f2,f3]
  rfl
 unfold z1j z7j
 rw [hcr]
 simp only [Option.bind_some]
 rw [if_neg (by simp)]
 show ((z1l [zd.mk ccL [109,97,120,45,97,103,101,61,50]]).bind _).bind _=_
 rw [hpar]
 simp only [Option.bind_some]
 rw [if_neg (by simp)]
 rw [hvy]
 simp only [Option.bind_some]
 rw [if_neg (by simp),hlt]
 rfl
theorem z5n {k:Int} {s:zn} (h:SB k s) (hk:k≤1000000) (m:Nat) (hm:m≤100) (sep:Bs) (hsep:sep.length≤10) (l:List Bs) (hl:l≠[]∧l.length≤1000) (hB:∀ x,x∈l→x.length≤100) :
  Ok (jo s (m:Int) sep l) fun r=>r.1.length≤30000∧SB (k+m) r.2:=by
 unfold jo
 refine ok_g (by omega) ?_
 rw [Int.toNat_natCast]
 refine z6u (fun j (q:List Int×Int×List Bs)=>j≤m∧SB (k+(j:Int)) (zn.mk q.1 q.2.1)∧q.2.2.length≤j∧∀ x,x∈q.2.2→x.length≤100) m 0 _ ⟨by omega,h.mono (by omega),by simp,by simp⟩ ?_ ?_
 ·rintro j ⟨c5,c6,l7⟩ _ hj ⟨h0,h1,h2,h3⟩
  simp only at h1 h2 h3 ⊢
  unfold z2h
  refine yb (ue h1 (by omega) l hl) fun r hr=>ok_g (by omega) (yq ?_)
  refine ⟨by omega,hr.2.mono (by omega),by simp; omega,fun x hx => ?_⟩
  rcases List.mem_append.1 hx with h | h
  ·exact h3 x h
  ·have:x=r.1:=by simpa using h
   rw [this]; exact hB _ hr.1
 ·rintro ⟨c5,c6,l7⟩ ⟨h0,h1,h2,h3⟩
  simp only at h1 h2 h3 ⊢
  have hj:=z4q 100 sep l7 h3
  have hmm:l7.length * (100+sep.length)≤100 * 110:=Nat.mul_le_mul (by omega) (by omega)
  unfold z2i
  have hJ:jx l7 sep=some (Lib.join l7 sep):=by
   unfold jx
   rw [if_pos ⟨by omega,by omega⟩]
  rw [hJ]
  exact yq ⟨by simp only; omega,h1.mono (by omega)⟩
theorem x48 {k:Int} {s:zn} (h:SB k s) (hk:k≤100000):Ok (z39 s) fun r=>r.1.length≤30000∧SB (k+20) r.2:=by
 have hJ:∀ (t:Bs) (c:List Int) (a:Int),t.length≤30000→SB (k+15) (zn.mk c a)→Ok (Wg t c a) fun r=>r.1.length≤30000∧SB (k+20) r.2:=by
  intro t c a ht hs
  unfold Wg z2k
  refine yb (vd hs (by omega) 20 (by omega)) fun r hr=>wb (fun _ => ?_) (fun _=>yq ⟨ht,hr.mono (by omega)⟩)
  exact yb (kw hr (by omega) 100 _ ⟨by simp,by simp⟩ (by decide)) fun r2 h2=>yq ⟨by have:=h2.1; simp only; omega,h2.2.mono (by omega)⟩
 unfold z39
 refine yb (z0s h (by omega) 0 3 (by omega)) fun r hr => ?_
 obtain ⟨m,hm⟩:∃ m:Nat,r.1=(m:Int):=⟨r.1.toNat,by omega⟩
 rw [hm]
 refine yb (z5n hr.2 (by omega) m (by omega) [44,32] (by simp) _ ⟨by simp,by simp⟩ (by decide)) fun r2 h2=>yb (vd h2.2 (by omega) 10 (by omega)) fun r3 h3=>wb (fun _ => ?_) (fun _=>hJ _ _ _ h2.1 (h3.mono (by omega)))
 exact yb (z5n h3 (by omega) 2 (by omega) [44] (by simp) _ ⟨by simp,by simp⟩ (by decide)) fun r4 h4=>hJ _ _ _ h4.1 (h4.2.mono (by omega))
theorem x5r {k:Int} {s:zn} (h:SB k s) (hk:k≤100000):Ok (z4b s) fun r=>r.1.length≤30000∧SB (k+20) r.2:=by
 unfold z4b z2l
 refine yb (z0s h (by omega) 1 2 (by omega)) fun r hr => ?_
 obtain ⟨m,hm⟩:∃ m:Nat,r.1=(m:Int):=⟨r.1.toNat,by omega⟩
 rw [hm]
 refine yb (z5n hr.2 (by omega) m (by omega) [44,32] (by simp) _ ⟨by simp,by simp⟩ (by decide)) fun r2 h2=>yb (vd h2.2 (by omega) 20 (by omega)) fun r3 h3=>wb (fun _ => ?_) (fun _=>yq ⟨h2.1,h3.mono (by omega)⟩)
 exact yb (kw h3 (by omega) 100 _ ⟨by simp,by simp⟩ (by decide)) fun r4 h4=>yq ⟨by have:=h4.1; simp only; omega,h4.2.mono (by omega)⟩
def haP (n:Nat) (l:List zd):Prop:=l.length≤n∧∀ y,y∈l→hdA y
theorem z7y (n:Nat):haP n ([]:List zd):=⟨by simp,by simp⟩
theorem vq {n m:Nat} {l:List zd} (h:haP n l) (hm:n≤m):haP m l:=⟨by have:=h.1; omega,h.2⟩
theorem z5b {n:Nat} {l:List zd} (h:haP n l) (a b:Bs) (h1:ascB a=true∧a.length≤3000) (h2:b.length≤30000):haP (n+1) (l++[zd.mk a b]):=
 ⟨by have:=h.1; simp; omega,x4d h.2 (x4e h1 h2)⟩
theorem z7z {n:Nat} {l:List zd} (h:haP n l) (hn:n≤1000):hdsP l:=⟨by have:=h.1; omega,fun y hy=>(h.2 y hy).1⟩
def rqA (r:ya):Prop:=rqP r∧haP 100 r.Headers
theorem z2x {n:Nat} (name value:Bs) (c:zx) (h:haP n c.Headers) (hn:n≤100) (h1:ascB name=true∧name.length≤3000) (h2:value.length≤30000):Ok (uq name value c) fun r=>haP (n+1) r.Headers:=by
 unfold uq
 exact ok_g (by have:=h.1; omega) (yq (z5b h name value h1 h2))
theorem y6m {k:Int} {s:zn} (h:SB k s) (hk:k≤5000):Ok (z1h s) fun r=>haP 100 r.1.Headers∧SB (k+200) r.2:=by
 have hJ7:∀ (l:List zd) (b:Bs) (c:List Int) (a n:Int),haP 100 l→SB (k+200) (zn.mk c a)→Ok (Wh l b c a n) fun r=>haP 100 r.1.Headers∧SB (k+200) r.2:=by
  intro l b c a n hl hs
  unfold Wh
  exact yq ⟨hl,hs⟩
 have hJ6:∀ (c:List Int) (a:Int) (l:List zd) (n:Int) (b:Bs),haP 50 l→SB (k+180) (zn.mk c a)→Ok (Wi c a l n b) fun r=>haP 100 r.1.Headers∧SB (k+200) r.2:=by
  intro c a l n b hl hs
  unfold Wi
  refine yb (vd hs (by omega) 40 (by omega)) fun r hr=>wb (fun _ => ?_) (fun _=>hJ7 _ _ _ _ _ (vq hl (by omega)) (hr.mono (by omega)))
  exact yb (z6v hr (by omega) 100 599 (by omega)) fun r2 h2=>hJ7 _ _ _ _ _ (vq hl (by omega)) (h2.2.mono (by omega))
 have hJ5:∀ (c:List Int) (a:Int) (l:List zd) (n:Int) (b:Bs),haP 20 l→SB (k+100) (zn.mk c a)→Ok (Wj c a l n b) fun r=>haP 100 r.1.Headers∧SB (k+200) r.2:=by
  intro c a l n b hl hs
  unfold Wj
  refine yb (vd hs (by omega) 30 (by omega)) fun r hr=>wb (fun _ => ?_) (fun _=>hJ6 _ _ _ _ _ (vq hl (by omega)) (hr.mono (by omega)))
  refine yb (z6k hr (by omega) 3000 _ ⟨by simp,by simp⟩ (by decide +kernel)) fun r75 h75=>yb (z5n h75.2 (by omega) 12 (by omega) [44] (by simp) _ ⟨by simp,by simp⟩ (by decide)) fun r77 h77=>yb (kw h77.2 (by omega) 30000 _ ⟨by simp,by simp⟩ (by simp [h77.1])) fun r79 h79 => ?_
  exact yb (z2x r75.1 r79.1 (zx.mk n l b) hl (by omega) h75.1 h79.1) fun r81 h81=>hJ6 _ _ _ _ _ (vq h81 (by omega)) (h79.2.mono (by omega))
 have hJ4:∀ (c:List Int) (a:Int) (l:List zd) (n:Int) (b:Bs),haP 18 l→SB (k+90) (zn.mk c a)→Ok (Wl c a l n b) fun r=>haP 100 r.1.Headers∧SB (k+200) r.2:=by
  intro c a l n b hl hs
  unfold Wl
  refine yb (vd hs (by omega) 6 (by omega)) fun r hr=>wb (fun _ => ?_) (fun _=>hJ5 _ _ _ _ _ (vq hl (by omega)) (hr.mono (by omega)))
  exact yb (kw hr (by omega) 100 _ ⟨by simp,by simp⟩ (by decide)) fun r63 h63=>yb (z2x _ r63.1 (zx.mk n l b) hl (by omega) ⟨rfl,by simp⟩ (by have:=h63.1; omega)) fun r65 h65=>hJ5 _ _ _ _ _ (vq h65 (by omega)) (h63.2.mono (by omega))
 have hJ3:∀ (c:List Int) (a:Int) (l:List zd) (n:Int) (b:Bs),haP 16 l→SB (k+80) (zn.mk c a)→Ok (Wm c a l n b) fun r=>haP 100 r.1.Headers∧SB (k+200) r.2:=by
  intro c a l n b hl hs
  unfold Wm
  refine yb (vd hs (by omega) 4 (by omega)) fun r hr=>wb (fun _ => ?_) (fun _=>hJ4 _ _ _ _ _ (vq hl (by omega)) (hr.mono (by omega)))
  exact yb (kw hr (by omega) 100 _ ⟨by simp,by simp⟩ (by decide)) fun r51 h51=>yb (z2x _ r51.1 (zx.mk n l b) hl (by omega) ⟨rfl,by simp⟩ (by have:=h51.1; omega)) fun r53 h53=>hJ4 _ _ _ _ _ (vq h53 (by omega)) (h51.2.mono (by omega))
 have hJ2:∀ (c:List Int) (a:Int) (l:List zd) (n:Int) (b:Bs),haP 14 l→SB (k+60) (zn.mk c a)→Ok (Wn c a l n b) fun r=>haP 100 r.1.Headers∧SB (k+200) r.2:=by
  intro c a l n b hl hs
  unfold Wn
  refine yb (vd hs (by omega) 2 (by omega)) fun r hr=>wb (fun _ => ?_) (fun _=>hJ3 _ _ _ _ _ (vq hl (by omega)) (hr.mono (by omega)))
  exact yb (z6k hr (by omega) 3000 _ ⟨by simp,by simp⟩ (by decide +kernel)) fun r37 h37=>yb (kw h37.2 (by omega) 100 _ ⟨by simp,by simp⟩ (by decide)) fun r39 h39=>yb (z2x r37.1 r39.1 (zx.mk n l b) hl (by omega) h37.1 (by have:=h39.1; omega)) fun r41 h41=>hJ3 _ _ _ _ _ (vq h41 (by omega)) (h39.2.mono (by omega))
 have hJ1:∀ (c:List Int) (a:Int) (l:List zd) (n:Int) (b:Bs),haP 12 l→SB (k+50) (zn.mk c a)→Ok (Wp c a l n b) fun r=>haP 100 r.1.Headers∧SB (k+200) r.2:=by
  intro c a l n b hl hs
  unfold Wp
  refine yb (vd hs (by omega) 3 (by omega)) fun r hr=>wb (fun _ => ?_) (fun _=>hJ2 _ _ _ _ _ (vq hl (by omega)) (hr.mono (by omega)))
  exact yb (kw hr (by omega) 100 _ ⟨by simp,by simp⟩ (by decide)) fun r25 h25=>yb (z2x _ r25.1 (zx.mk n l b) hl (by omega) ⟨rfl,by simp⟩ (by have:=h25.1; omega)) fun r27 h27=>hJ2 _ _ _ _ _ (vq h27 (by omega)) (h25.2.mono (by omega))
 unfold z1h
 refine yb (z6s h (by omega) _ ⟨by simp,by simp⟩) fun r2 h2=>yb (z9k _ _ ⟨by omega,by omega,by simp⟩) fun r4 h4=>yb (ue h2.2 (by omega) _ ⟨by simp,by simp⟩) fun r6 h6=>yb (vd h6.2 (by omega) 6 (by omega)) fun r8 h8=>wb (fun _ => ?_) (fun _=>hJ1 _ _ _ _ _ (z7y 12) (h8.mono (by omega)))
 exact yb (z6k h8 (by omega) 3000 _ ⟨by simp,by simp⟩ (by decide +kernel)) fun r11 h11=>yb (x48 h11.2 (by omega)) fun r13 h13=>yb (z2x r11.1 r13.1 (zx.mk r2.1 [] r6.1) (z7y 0) (by omega) h11.1 h13.1) fun r15 h15=>hJ1 _ _ _ _ _ (vq h15 (by omega)) (h13.2.mono (by omega))
theorem x4x (a b:Int):z4c [a,b]=some (if a≠0 then a else b):=by
 unfold z4c z8a
 rw [if_pos (by simp)]
 show (Wv 0 a).bind _=_
 unfold Wv
 by_cases h:a=0
 ·rw [if_neg (by simpa using h),if_neg (by simpa using h)]
  show (Wv 1 b).bind _=_
  unfold Wv
  by_cases h2:b=0
  ·rw [if_neg (by simpa using h2),h2]; rfl
  ·rw [if_pos (by simpa using h2)]; rfl
 ·rw [if_pos (by simpa using h),if_pos h]; rfl
end Go.Proofs.YtkldmhhbbceaoabGreatDoor
