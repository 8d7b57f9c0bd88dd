/- Plain: the law TopCallersMay is true for every list of numbers. -/
import Derived.Test.YtbndlmnjeofkdadGreatDoorKnZu
namespace Go.Proofs.YtbndlmnjeofkdadGreatDoor
set_option linter.unusedVariables false
set_option maxRecDepth 20000
theorem w17:(List.range 16).all (fun u=>match at? ([48,49,50,51,52,53,54,55,56,57,97,98,99,100,101,102,103,104,105,106,107,108,109,110,111,112,113,114,115,116,117,118,119,120,121,122]:Bs) (u:Int) with | some c=>isX c | none=>false)=true:=by decide
theorem x0n (u:Nat) (h:u < 16):Ok (at? ([48,49,50,51,52,53,54,55,56,57,97,98,99,100,101,102,103,104,105,106,107,108,109,110,111,112,113,114,115,116,117,118,119,120,121,122]:Bs) (u:Int)) fun c=>isX c=true:=by
 have:=List.all_eq_true.1 w17 u (by simp; exact h)
 cases hc:at? ([48,49,50,51,52,53,54,55,56,57,97,98,99,100,101,102,103,104,105,106,107,108,109,110,111,112,113,114,115,116,117,118,119,120,121,122]:Bs) (u:Int) with
 | none=>rw [hc] at this; cases this
 | some c=>rw [hc] at this; exact ⟨c,rfl,this⟩
def xN (n:Int):Prop:=∃ c:UInt8,n=(c.toNat:Int)∧isX c=true
theorem w15 (l:List Int) (i:Nat) (d:Int) (h:i < l.length):(l.set i d).drop i=d::l.drop (i+1):=by
 rw [List.drop_eq_getElem_cons (by simpa using h)]
 simp [List.drop_set]
theorem y5k {l:List Int} {i:Nat} {c:UInt8} (hi:i < l.length) (hc:isX c=true) (h:∀ n,n∈l.drop (i+1)→xN n):∀ n,n∈(l.set i (c.toNat:Int)).drop i→xN n:=fun n hn=>by
 rw [w15 l i _ hi] at hn
 rcases List.mem_cons.1 hn with rfl | hn
 ·exact ⟨c,rfl,hc⟩
 ·exact h n hn
theorem x4i {l:List Int} (h:∀ n,n∈l→xN n):(strN l).all isX=true:=by
 unfold strN
 rw [List.all_map]
 refine List.all_eq_true.2 fun n hn => ?_
 obtain ⟨c,rfl,hc⟩:=h n hn
 simpa using hc
theorem w1d (h:Int) (hh:0≤h∧h≤18446744073709551615):Ok (z16 h) fun r=>smB r=true:=by
 unfold z16
 have hf:Ok (Yl h 16) fun r=>r.length≤16∧r.all isX=true:=by
  unfold Yl z5u z5t z2k z5s
  rw [if_neg (by decide),if_neg (by decide),if_neg (by decide)]
  have hp:decide (and_ .i64 16 (wr (16 - 1))=0)=true:=by decide +kernel
  have htz:z2d (IntKind.wrap .u64 16)=some 4:=by decide +kernel
  simp only [hp,Option.bind_some,if_true,htz]
  refine wa (Q:=fun r=>r.length≤16∧r.all isX=true) (wa (Q:=fun r=>r.2.length≤16∧r.2.all isX=true) ?_ fun r hr=>wv hr) fun r hr=>wv hr
  have h16p:h.toNat < 16 ^ (16 - 0):=by
   have:(16:Nat) ^ (16 - 0)=18446744073709551616:=by decide
   rw [this]; omega
  refine y2t (fun s:Int×Int×List Int=>∃ v j:Nat,s.1=(v:Int)∧s.2.1=((65 - j:Nat):Int)∧j≤15∧s.2.2.length=65∧v < 16 ^ (16 - j)∧∀ n,n∈s.2.2.drop (65 - j)→xN n) (fun s=>s.1.toNat) ?_ _ ⟨h.toNat,0,by simp; omega,rfl,by omega,by simp,h16p,by simp⟩
  rintro ⟨v,i,l⟩ ⟨v,j,rfl,rfl,hj,hl,hv,hx⟩
  simp only at hl hx ⊢
  have e16:IntKind.wrap .u64 16=16:=by decide
  have e15:IntKind.wrap .u64 (16 - 1)=15:=by decide
  have ew:wr (((65 - j:Nat):Int) - 1)=((64 - j:Nat):Int):=by rw [qw (by omega)]; omega
  have hx2:∀ n,n∈l.drop (64 - j+1)→xN n:=by rw [show 64 - j+1=65 - j by omega]; exact hx
  unfold z6h
  rw [e16,e15,ew]
  by_cases h16:16≤v
  ·rw [if_pos (by simp; omega)]
   have hj2:j≤14:=by
    rcases Nat.lt_or_ge 14 j with hq | hq
    ·have:j=15:=by omega
     subst this
     simp at hv; omega
    ·exact hq
   have e1:and_ .u64 (v:Int) 15=((v % 16:Nat):Int):=by
    show IntKind.wrap .u64 (((BitVec.ofInt IntKind.u64.bits (v:Int) &&& BitVec.ofInt IntKind.u64.bits ((15:Nat):Int)).toNat:Nat):Int)=_
    have hbits:IntKind.u64.bits=64:=rfl
    have hv2:v < 2 ^ 64:=Nat.lt_of_lt_of_le hv (Nat.le_trans (Nat.pow_le_pow_right (by decide) (show 16 - j≤16 by omega)) (by decide))
    rw [hbits,BitVec.ofInt_natCast,BitVec.ofInt_natCast,BitVec.toNat_and,BitVec.toNat_ofNat,BitVec.toNat_ofNat,Nat.mod_eq_of_lt hv2,Nat.mod_eq_of_lt (by omega),show 15=2 ^ 4 - 1 from rfl,Nat.and_two_pow_sub_one_eq_mod]
    exact y5s (by omega)
   have e4:IntKind.wrap .u64 4=4:=by decide
   have e2:shr_ .u64 (v:Int) 4=((v / 16:Nat):Int):=by
    show (v:Int).fdiv (2 ^ (min (4:Int).toNat IntKind.u64.bits))=_
    have:min (4:Int).toNat IntKind.u64.bits=4:=by decide
    rw [this,Int.fdiv_eq_ediv_of_nonneg _ (by decide)]
    rfl
   rw [e1]
   refine wa (x0n (v % 16) (Nat.mod_lt _ (by decide))) fun x hxc=>ok_g (by omega) (ok_g (by omega) ?_)
   rw [e4,e2]
   refine ok_g (by omega) (wv ⟨⟨v / 16,j+1,rfl,?_,by omega,by simp [hl],?_,?_⟩,?_⟩)
   ·have:64 - j=65 - (j+1):=by omega
    rw [this]
   ·obtain ⟨m,hm⟩:∃ m,16 - j=m+1:=⟨15 - j,by omega⟩
    rw [hm,Nat.pow_succ] at hv
    rw [show 16 - (j+1)=m by omega]
    omega
   ·simp only [Int.toNat_natCast]
    rw [show 65 - (j+1)=64 - j by omega]
    exact y5k (by rw [hl]; omega) hxc hx2
   ·simp only [Int.toNat_natCast]; omega
  ·rw [if_neg (by simp; omega)]
   have hJ:Ok (Yu false false (v:Int) ((65 - j:Nat):Int) l) fun r=>r.2.length≤16∧r.2.all isX=true:=by
    unfold Yu z0e z0d
    rw [ew]
    refine wa (x0n v (by omega)) fun x hxc=>ok_g (by omega) (ok_g (by omega) ?_)
    rw [if_neg (by decide),if_neg (by decide)]
    refine ok_g (by simp [hl]) (ok_g (by omega) (wv ⟨?_,?_⟩))
    ·simp only [strN,List.length_map,List.length_drop,List.length_set,hl,Int.toNat_natCast]
     omega
    ·simp only [Int.toNat_natCast]
     exact x4i (y5k (by rw [hl]; omega) hxc hx2)
   obtain ⟨r,h1,h2⟩:=hJ
   rw [h1]
   exact ⟨_,rfl,h2⟩
 refine wa hf fun r hr => ?_
 have hw:wr (16 - (r.length:Int))=16 - (r.length:Int):=qw (by omega)
 rw [hw]
 have hr2:Ok (Zh [48] (16 - (r.length:Int))) fun q=>q.length=16 - r.length∧q.all isX=true:=by
  unfold Zh
  refine ok_g ⟨by omega,by omega,by simp⟩ (wv ⟨?_,?_⟩)
  ·rw [Lib.repeatL_length]
   simp only [List.length_cons,List.length_nil]
   omega
  ·have:∀ n:Nat,(Lib.repeatL [48] n).all isX=true:=by
    intro n
    induction n with
    | zero=>rfl
    | succ n ih=>simp [Lib.repeatL] at ih ⊢; exact ⟨by decide,ih⟩
   exact this _
 refine wa hr2 fun q hq=>ok_g (by omega) (wv ?_)
 unfold smB
 rw [List.all_append,hq.2,hr.2]
 simp only [List.length_append,Bool.and_self,Bool.and_true,decide_eq_true_eq]
 omega
theorem x4d (s t:Bs) (hs:s.length≤1000000) (ht:t.length≤1000000):Ok (kz s t) fun r=>smB r=true:=by
 obtain ⟨r,r1,r2,r3⟩:=x4b s t hs ht
 refine ⟨r,r1,?_⟩
 unfold z9m at r2
 obtain ⟨h,h1,h2⟩:=bnd r2
 unfold z0k at h2
 have hgen:∀ (h:Int),Ok (rng (fun (k:Nat) (s:Int)=>z99 k s) (fun (s:Int)=>z0k s) 3 0 h) fun r=>smB r=true:=by
  intro h
  rw [rng3 (body:=fun (k:Nat) (s:Int)=>z99 k s) (b:=mixH h) (c:=mixH (mixH h)) (d:=mixH (mixH (mixH h))) rfl rfl rfl]
  unfold z0k
  obtain ⟨q,q1,q2⟩:=w1d (mixH (mixH (mixH h))) (z7c _)
  rw [q1]
  exact wv q2
 rw [if_pos (by decide)] at h2
 obtain ⟨q,q1,q2⟩:=hgen h
 have:some q=some r:=q1.symm.trans h2
 cases this
 exact q2
theorem Zl (v:Nat) (h:v < 64):iv (sgn v)=v∧gdB (sgn v)=true:=by
 have:=List.all_eq_true.1 (show ((List.range 64).all fun v=>decide (iv (sgn v)=v) && gdB (sgn v))=true by decide +kernel) v (by simpa using h)
 simpa using this
theorem y0h:∀ s:Bs,(encP s).all gdB=true∧decP ((encP s).map iv)=s.map fun c=>c.toNat
 | []=>⟨rfl,rfl⟩
 | [a]=>by
  have ha:=a.toNat_lt
  have h1:=Zl (a.toNat / 4) (by omega)
  have h3:=Zl (a.toNat % 4 * 16) (by omega)
  refine ⟨by simp [encP,h1.2,h3.2],?_⟩
  simp only [encP,List.map_cons,List.map_nil,h1.1,h3.1,decP,List.cons.injEq,and_true]
  omega
 | [a,b]=>by
  have ha:=a.toNat_lt
  have hb:=b.toNat_lt
  have h1:=Zl (a.toNat / 4) (by omega)
  have h3:=Zl (a.toNat % 4 * 16+b.toNat / 16) (by omega)
  have h4:=Zl (b.toNat % 16 * 4) (by omega)
  refine ⟨by simp [encP,h1.2,h3.2,h4.2],?_⟩
  simp only [encP,List.map_cons,List.map_nil,h1.1,h3.1,h4.1,decP,List.cons.injEq,and_true]
  omega
 | a::b::c::r=>by
  have ha:=a.toNat_lt
  have hb:=b.toNat_lt
  have hc:=c.toNat_lt
  have ih:=y0h r
  have h1:=Zl (a.toNat / 4) (by omega)
  have h3:=Zl (a.toNat % 4 * 16+b.toNat / 16) (by omega)
  have h4:=Zl (b.toNat % 16 * 4+c.toNat / 64) (by omega)
  have h5:=Zl (c.toNat % 64) (by omega)
  refine ⟨by simp [encP,h1.2,h3.2,h4.2,h5.2,ih.1],?_⟩
  simp only [encP,List.map_cons,h1.1,h3.1,h4.1,h5.1,decP,ih.2,List.cons.injEq,and_true]
  omega
theorem w2f (s:Bs):decF (encP s)=(s,0):=by
 obtain ⟨h1,h3⟩:=y0h s
 have e:strN (nI (s.map fun c=>c.toNat))=s:=by
  unfold strN nI
  rw [List.map_map,List.map_map]
  have:(((fun n:Int=>UInt8.ofNat n.toNat) ∘ fun n:Nat=>(n:Int)) ∘ fun c:UInt8=>c.toNat)=id:=by
   funext c; simp
  rw [this,List.map_id]
 unfold decF
 rw [h1,h3,e]
 simp
theorem z2f {s:Bs} (h:keyP s=true):s≠[]∧(32:UInt8) ∉ s∧(10:UInt8) ∉ s∧(46:UInt8) ∉ s∧s.length≤40:=by
 unfold keyP at h
 simp only [Bool.and_eq_true,decide_eq_true_eq] at h
 have hno:∀ c:UInt8,(kc 0 c=false∧kc 1 c=false)→c ∉ s:=fun c hc hm=>by
  obtain ⟨j,hj⟩:=List.getElem?_of_mem hm
  have:=(y0r kc s 0).1 h.1 j c hj
  rw [Nat.zero_add] at this
  cases j with
  | zero=>rw [hc.1] at this; cases this
  | succ j=>rw [y8y] at this; rw [hc.2] at this; cases this
 exact ⟨h.2.1,hno 32 (by decide),hno 10 (by decide),hno 46 (by decide),by omega⟩
theorem z8n {s:Bs} (h:scP s=true):s≠[]∧(32:UInt8) ∉ s∧(10:UInt8) ∉ s:=by
 unfold scP at h
 simp only [Bool.and_eq_true,decide_eq_true_eq] at h
 have hp:∀ p,p∈spl 58 s→p≠[]∧(32:UInt8) ∉ p∧(10:UInt8) ∉ p:=fun p hp=>by
  obtain ⟨j,hj⟩:=List.getElem?_of_mem hp
  have:=(y0r _ (spl 58 s) 0).1 h.1 j p hj
  unfold scK at this
  simp only [Bool.or_eq_true,Bool.and_eq_true,decide_eq_true_eq] at this
  rcases this with h1 | ⟨h1,_⟩
  ·have:=z2f h1
   exact ⟨this.1,this.2.1,this.2.2.1⟩
  ·rw [h1]; decide
 refine ⟨?_,?_,?_⟩
 ·intro e
  subst e
  exact (hp [] (by simp [spl])).1 rfl
 ·intro hm
  obtain ⟨p,h1,h3⟩:=y2a 58 s 32 hm (by decide)
  exact (hp p h1).2.1 h3
 ·intro hm
  obtain ⟨p,h1,h3⟩:=y2a 58 s 10 hm (by decide)
  exact (hp p h1).2.2 h3
theorem y9p (n:Int) (h:0≤n∧n≤345686400000):Lib.itoa n≠[]∧(32:UInt8) ∉ Lib.itoa n∧(10:UInt8) ∉ Lib.itoa n∧okN 15 (Lib.itoa n)=true∧valB (Lib.itoa n)=n:=by
 have hs:=(z0c n h).1
 obtain ⟨u,rfl⟩:=Int.eq_ofNat_of_zero_le h.1
 obtain ⟨k1,k2⟩:=x7d u (by omega)
 have e:Lib.itoa (u:Int)=Lib.decDigits u:=by unfold Lib.itoa; simp
 have hd:=y4z u
 have hno:∀ c:UInt8,isD c=false→c ∉ Lib.itoa (u:Int):=fun c hc hm=>by
  rw [e] at hm
  have:=List.all_eq_true.1 hd c hm
  rw [hc] at this; cases this
 refine ⟨?_,hno 32 (by decide),hno 10 (by decide),?_,k2⟩
 ·intro h0
  rw [h0] at k1
  exact absurd k1 (by decide)
 ·have htl:=y6n (Lib.itoa (u:Int))
  unfold okN at k1 ⊢
  simp only [Bool.and_eq_true,decide_eq_true_eq] at k1 ⊢
  exact ⟨k1.1,⟨k1.2.1.1,by omega⟩,k1.2.2⟩
theorem y69:∀ L:List Bs,(∀ x,x∈L→(10:UInt8) ∉ x)→spl 10 (L.flatMap (· ++ [10]))=L++[[]]
 | [],_=>rfl
 | x::L,h=>by
  have e:(x::L).flatMap (· ++ [10])=x++10::L.flatMap (· ++ [10]):=by simp
  rw [e,splA 10 _ x (h x (by simp)),y69 L fun y hy=>h y (List.mem_cons_of_mem _ hy)]
  rfl
theorem x7r (L:List Bs) (h:∀ x,x∈L→(10:UInt8) ∉ x):lnS (L.flatMap (· ++ [10]))=(L,true):=by
 unfold lnS
 rw [y69 L h,if_pos (by simp)]
 simp
theorem w0x (c:UInt8) (x y:Bs) (l:List Bs):Lib.join (x::y::l) [c]=x++c::Lib.join (y::l) [c]:=by
 rw [show Lib.join (x::y::l) [c]=x++([c]++Lib.join (y::l) [c]) from rfl]; rfl
theorem y7a (c:UInt8):∀ l:List Bs,l≠[]→(∀ x,x∈l→c ∉ x)→spl c (Lib.join l [c])=l
 | [],h,_=>absurd rfl h
 | [x],_,h=>by rw [Lib.join_one,splN c x (h x (by simp))]
 | x::y::l,_,h=>by rw [w0x,splA c _ x (h x (by simp)),y7a c (y::l) (by simp) fun z hz=>h z (List.mem_cons_of_mem _ hz)]
theorem Qv (w:Bs) (l:List Bs) (hw:(32:UInt8) ∉ w) (hl:l≠[]) (h:∀ x,x∈l→(32:UInt8) ∉ x):spl 32 (w++32::Lib.join l [32])=w::l:=by
 rw [splA 32 _ w hw,y7a 32 l hl h]
theorem z1b {x w:Bs} {l L:List Bs} {k i:Nat} {c c':zm} (hx:spl 32 x=w::l) (hk:k < 7) (hw:kd w=k) (hwn:w≠[]) (hl:∀ y,y∈l→y≠[]) (hs:setC k c (w::l)=some c'):rdC true (x::L) k i c=rdC true L (k+1) (i+1) c':=by
 have hh:qm x=w:=by unfold qm; rw [hx]; rfl
 rw [z8s hk (by rw [hh]; exact hw),hx,if_neg (by
  rintro (⟨_,h⟩ | h)
  ·cases h
  ·rcases List.mem_cons.1 h with h | h
   ·exact hwn h.symm
   ·exact hl [] h rfl),hs]
theorem y4l {x w:Bs} {l:List Bs} (hx:spl 32 x=w::l):qm x=w:=by unfold qm; rw [hx]; rfl
theorem x6m (c:zm) (h0:clF c=0) (ha:c.Audience=[]) (hl:(txC c).length≤4000) (hf:0≤c.From∧c.From≤345686400000) (ht:0≤c.To∧c.To≤345686400000):rdT (txC c)=(c,0,0):=by
 have hk:z6d c=true∧scF c.Scopes=0:=by
  unfold clF at h0
  cases hk:z6d c
  ·rw [hk] at h0; simp at h0
  ·refine ⟨rfl,?_⟩
   rw [hk,ha] at h0
   simp only [Bool.not_true,Bool.false_eq_true,if_false,List.length_nil] at h0
   rw [if_neg (by omega),if_neg (by decide)] at h0
   unfold tlF at h0
   split at h0
   ·rename_i h1; exact absurd h0 h1
   ·rename_i h1; exact Decidable.of_not_not h1
 obtain ⟨hk,hsc⟩:=hk
 unfold z6d at hk
 simp only [Bool.and_eq_true,Bool.or_eq_true,decide_eq_true_eq] at hk
 obtain ⟨⟨⟨k1,k2⟩,k3⟩,k4⟩:=hk
 have n1:=z2f k1
 have n2:=z2f k2
 have n3:=z2f k3
 have hsp:∀ x,x∈c.Scopes→scP x=true:=by
  unfold scF at hsc
  split at hsc
  ·cases hsc
  ·split at hsc
   ·rename_i h1; exact fun x hx=>List.all_eq_true.1 h1 x hx
   ·cases hsc
 have nF:=y9p c.From hf
 have nT:=y9p c.To ht
 have hj10:(10:UInt8) ∉ Lib.join c.Scopes [32]:=fun hm=>by
  have:∀ (V:List Bs),(10:UInt8)∈Lib.join V [32]→∃ v,v∈V∧(10:UInt8)∈v:=by
   intro V
   induction V with
   | nil=>intro h; cases h
   | cons x V ih =>
    intro h
    cases V with
    | nil=>rw [Lib.join_one] at h; exact ⟨x,by simp,h⟩
    | cons y V =>
     rw [show Lib.join (x::y::V) [32]=x++([32]++Lib.join (y::V) [32]) from rfl] at h
     rcases List.mem_append.1 h with h | h
     ·exact ⟨x,by simp,h⟩
     ·rcases List.mem_append.1 h with h | h
      ·simp at h
      ·obtain ⟨v,h1,h3⟩:=ih h
       exact ⟨v,List.mem_cons_of_mem _ h1,h3⟩
  obtain ⟨v,h1,h3⟩:=this c.Scopes hm
  exact (z8n (hsp v h1)).2.2 h3
 have hno:∀ x,x∈lnC c→(10:UInt8) ∉ x:=by
  intro x hx hm
  unfold lnC at hx
  rw [ha] at hx
  simp only [List.mem_append,List.mem_cons,List.not_mem_nil,or_false] at hx
  rcases hx with ((((rfl | rfl | rfl) | hx) | hx) | hx) | rfl
  ·rcases List.mem_append.1 hm with hm | hm
   ·revert hm; decide
   ·exact n1.2.2.1 hm
  ·rcases List.mem_append.1 hm with hm | hm
   ·revert hm; decide
   ·exact n2.2.2.1 hm
  ·rcases List.mem_append.1 hm with hm | hm
   ·revert hm; decide
   ·exact n3.2.2.1 hm
  ·split at hx
   ·rename_i hp
    have hx:=List.mem_singleton.1 hx
    subst hx
    rcases List.mem_append.1 hm with hm | hm
    ·revert hm; decide
    ·rcases k4 with k4 | k4
     ·exact hp k4
     ·exact (z2f k4).2.2.1 hm
   ·cases hx
  ·simp at hx
  ·split at hx
   ·have hx:=List.mem_singleton.1 hx
    subst hx
    rcases List.mem_append.1 hm with hm | hm
    ·revert hm; decide
    ·exact hj10 hm
   ·cases hx
  ·simp only [List.mem_append] at hm
   rcases hm with ((hm | hm) | hm) | hm
   ·revert hm; decide
   ·exact nF.2.2.1 hm
   ·revert hm; decide
   ·exact nT.2.2.1 hm
 unfold rdT
 rw [if_neg (by omega)]
 have hln:lnS (txC c)=(lnC c,true):=x7r (lnC c) hno
 rw [hln]
 simp only
 have sId:spl 32 ([105,100,32]++c.Id)=[[105,100],c.Id]:=by
  have:=Qv [105,100] [c.Id] (by decide) (by simp) (fun x hx=>by obtain rfl:x=c.Id:=(by simpa using hx); exact n1.2.1)
  rw [Lib.join_one] at this
  exact this
 have sSu:spl 32 ([115,117,98,106,101,99,116,32]++c.Subject)=[[115,117,98,106,101,99,116],c.Subject]:=by
  have:=Qv [115,117,98,106,101,99,116] [c.Subject] (by decide) (by simp) (fun x hx=>by obtain rfl:x=c.Subject:=(by simpa using hx); exact n2.2.1)
  rw [Lib.join_one] at this
  exact this
 have sIs:spl 32 ([105,115,115,117,101,114,32]++c.Issuer)=[[105,115,115,117,101,114],c.Issuer]:=by
  have:=Qv [105,115,115,117,101,114] [c.Issuer] (by decide) (by simp) (fun x hx=>by obtain rfl:x=c.Issuer:=(by simpa using hx); exact n3.2.1)
  rw [Lib.join_one] at this
  exact this
 have sTi:spl 32 ((([116,105,109,101,32]++Lib.itoa c.From)++[32])++Lib.itoa c.To)=[[116,105,109,101],Lib.itoa c.From,Lib.itoa c.To]:=by
  have:=Qv [116,105,109,101] [Lib.itoa c.From,Lib.itoa c.To] (by decide) (by simp) (fun x hx=>by
   simp only [List.mem_cons,List.not_mem_nil,or_false] at hx
   rcases hx with rfl | rfl
   ·exact nF.2.1
   ·exact nT.2.1)
  have e:[116,105,109,101]++32::Lib.join [Lib.itoa c.From,Lib.itoa c.To] [32]=(([116,105,109,101,32]++Lib.itoa c.From)++[32])++Lib.itoa c.To:=by simp [Lib.join]
  rw [e] at this
  exact this
 have hTime:∀ i d,rdC true [(([116,105,109,101,32]++Lib.itoa c.From)++[32])++Lib.itoa c.To] 6 i d=finC (zm.mk d.Id d.Subject d.Issuer d.Parent d.Audience d.Scopes c.From c.To):=by
  intro i d
  rw [z1b sTi (by omega) (by decide) (by simp) (fun y hy=>by
   simp only [List.mem_cons,List.not_mem_nil,or_false] at hy
   rcases hy with rfl | rfl
   ·exact nF.1
   ·exact nT.1) (c':=zm.mk d.Id d.Subject d.Issuer d.Parent d.Audience d.Scopes c.From c.To) (by
   unfold setC
   simp only [List.length_cons,List.length_nil,List.getD_cons_succ,List.getD_cons_zero]
   rw [if_pos ⟨by trivial,nF.2.2.2.1,nT.2.2.2.1⟩,nF.2.2.2.2,nT.2.2.2.2])]
  simp [rdC]
 have kTi:=y4l sTi
 have hMay:∀ i d,d.Audience=[]→d.Scopes=[]→rdC true ((if 0 < c.Scopes.length then [[109,97,121,32]++Lib.join c.Scopes [32]] else [])++[(([116,105,109,101,32]++Lib.itoa c.From)++[32])++Lib.itoa c.To]) 4 i d=finC (zm.mk d.Id d.Subject d.Issuer d.Parent [] c.Scopes c.From c.To):=by
  intro i d hda hds
  by_cases hs0:0 < c.Scopes.length
  ·rw [if_pos hs0]
   have hne:c.Scopes≠[]:=by intro e; rw [e] at hs0; simp at hs0
   have sMa:spl 32 ([109,97,121,32]++Lib.join c.Scopes [32])=[109,97,121]::c.Scopes:=Qv [109,97,121] c.Scopes (by decide) hne fun x hx=>(z8n (hsp x hx)).2.1
   have kMa:=y4l sMa
   show rdC true (([109,97,121,32]++Lib.join c.Scopes [32])::[_]) 4 i d=_
   rw [z1c (.inr (.inl rfl)) (by rw [kMa]; decide),z1b sMa (by omega) (by decide) (by simp) (fun y hy=>(z8n (hsp y hy)).1) (c':=zm.mk d.Id d.Subject d.Issuer d.Parent d.Audience c.Scopes d.From d.To) (by
    unfold setC
    simp only [List.length_cons,List.drop_succ_cons,List.drop_zero]
    rw [if_pos (by omega)]),hTime,hda]
  ·rw [if_neg hs0]
   have hne:c.Scopes=[]:=by cases hc:c.Scopes with | nil=>rfl | cons a b=>rw [hc] at hs0; simp at hs0
   show rdC true [_] 4 i d=_
   rw [z1c (.inr (.inl rfl)) (by rw [kTi]; decide),z1c (.inr (.inr rfl)) (by rw [kTi]; decide),hTime,hda,hds,hne]
 have hPar:∀ i d,d.Parent=[]→d.Audience=[]→d.Scopes=[]→rdC true ((if c.Parent≠[] then [[112,97,114,101,110,116,32]++c.Parent] else [])++((if 0 < c.Scopes.length then [[109,97,121,32]++Lib.join c.Scopes [32]] else [])++[(([116,105,109,101,32]++Lib.itoa c.From)++[32])++Lib.itoa c.To])) 3 i d=finC (zm.mk d.Id d.Subject d.Issuer c.Parent [] c.Scopes c.From c.To):=by
  intro i d hdp hda hds
  by_cases hp:c.Parent≠[]
  ·rw [if_pos hp]
   have kp:keyP c.Parent=true:=by rcases k4 with h | h; exact absurd h hp; exact h
   have nP:=z2f kp
   have sPa:spl 32 ([112,97,114,101,110,116,32]++c.Parent)=[[112,97,114,101,110,116],c.Parent]:=by
    have:=Qv [112,97,114,101,110,116] [c.Parent] (by decide) (by simp) (fun x hx=>by obtain rfl:x=c.Parent:=(by simpa using hx); exact nP.2.1)
    rw [Lib.join_one] at this
    exact this
   rw [List.singleton_append,z1b sPa (by omega) (by decide) (by simp) (fun y hy=>by obtain rfl:y=c.Parent:=(by simpa using hy); exact nP.1) (c':=zm.mk d.Id d.Subject d.Issuer c.Parent d.Audience d.Scopes d.From d.To) rfl]
   exact hMay _ _ hda hds
  ·rw [if_neg hp,List.nil_append]
   have hp0:c.Parent=[]:=Decidable.of_not_not hp
   have hskip:∀ L:List Bs,(∃ x l,L=x::l∧kd (qm x)≠3)→rdC true L 3 i d=rdC true L 4 i d:=by
    rintro L ⟨x,l,rfl,hx⟩
    exact z1c (.inl rfl) hx
   rw [hskip _ (by
    by_cases hs0:0 < c.Scopes.length
    ·rw [if_pos hs0]
     have hne:c.Scopes≠[]:=by intro e; rw [e] at hs0; simp at hs0
     have sMa:spl 32 ([109,97,121,32]++Lib.join c.Scopes [32])=[109,97,121]::c.Scopes:=Qv [109,97,121] c.Scopes (by decide) hne fun x hx=>(z8n (hsp x hx)).2.1
     exact ⟨_,_,rfl,by rw [y4l sMa]; decide⟩
    ·rw [if_neg hs0]
     exact ⟨_,_,rfl,by rw [kTi]; decide⟩),hMay i d hda hds,hp0,hdp]
 have hL:lnC c=([105,100,32]++c.Id)::([115,117,98,106,101,99,116,32]++c.Subject)::([105,115,115,117,101,114,32]++c.Issuer)::((if c.Parent≠[] then [[112,97,114,101,110,116,32]++c.Parent] else [])++((if 0 < c.Scopes.length then [[109,97,121,32]++Lib.join c.Scopes [32]] else [])++[(([116,105,109,101,32]++Lib.itoa c.From)++[32])++Lib.itoa c.To])):=by
  unfold lnC
  rw [ha]
  simp
 rw [hL,z1b sId (by omega) (by decide) (by simp) (fun y hy=>by obtain rfl:y=c.Id:=(by simpa using hy); exact n1.1) (c':=zm.mk c.Id [] [] [] [] [] 0 0) rfl,
  z1b sSu (by omega) (by decide) (by simp) (fun y hy=>by obtain rfl:y=c.Subject:=(by simpa using hy); exact n2.1) (c':=zm.mk c.Id c.Subject [] [] [] [] 0 0) rfl,
  z1b sIs (by omega) (by decide) (by simp) (fun y hy=>by obtain rfl:y=c.Issuer:=(by simpa using hy); exact n3.1) (c':=zm.mk c.Id c.Subject c.Issuer [] [] [] 0 0) rfl,
  hPar _ _ rfl rfl rfl]
 have hc:zm.mk c.Id c.Subject c.Issuer c.Parent [] c.Scopes c.From c.To=c:=by rw [← ha]
 simp only
 rw [hc]
 unfold finC
 rw [if_neg (by simp [h0])]
def tfB (l:List Bs):List Bs:=(l.map fun p=>trL 32 (trR 32 p)).filter fun p=>decide (p≠[])
theorem y6p (a b:List Bs):tfB (a++b)=tfB a++tfB b:=by simp [tfB]
theorem y6o (l:List Bs):(tfB l).length≤l.length:=by
 unfold tfB
 have:=(List.filter_sublist (p:=fun p:Bs=>decide (p≠[])) (l:=l.map fun p=>trL 32 (trR 32 p))).length_le
 simpa using this
def ptsB (l:List Bs):List Bs:=tfB (l.map (spl 44)).flatten
def vlP (V:List Bs):Prop:=V.length≤1000∧∀ v,v∈V→v.length≤2000
theorem y70:∀ (l:List Bs) (k:Nat) (q:List Bs),(∀ x,x∈l→x.length≤2000)→q.length+l.length≤100000000 →
  forL (fun (k:Nat) (x:Bs) (s:(List Bs))=>xz k x s) (fun (s:(List Bs))=>z1k s) k l q=some (.inl (q++tfB l))
 | [],k,q,_,_=>by show some (Sum.inl q)=_; simp [tfB]
 | x::l,k,q,h,hl=>by
  simp only [List.length_cons] at hl
  have hx:=h x (by simp)
  have hst:xz k x q=some (.inl (q++tfB [x])):=by
   unfold xz Zb
   rw [y6k 32 (by decide) x (by omega)]
   simp only [Option.bind_some]
   by_cases h0:trL 32 (trR 32 x)=[]
   ·rw [if_neg (by simpa using h0)]
    simp [tfB,h0]
   ·rw [if_pos (by simpa using h0),if_pos (by omega)]
    simp [tfB,h0]
  show (xz k x q).bind _=_
  rw [hst]
  have h1:=y6o [x]
  refine Eq.trans (y70 l (k+1) (q++tfB [x]) (fun y hy=>h y (List.mem_cons_of_mem _ hy)) (by simp only [List.length_append,List.length_cons,List.length_nil] at h1 ⊢; omega)) ?_
  rw [List.append_assoc,← y6p]; rfl
theorem y71:∀ (V:List Bs) (k:Nat) (q:List Bs),(∀ v,v∈V→v.length≤2000)→q.length+V.length * 2001≤90000000 →
  forL (fun (k:Nat) (x:Bs) (s:(List Bs))=>Za k x s) (fun (s:(List Bs))=>z1l s) k V q=some (q++ptsB V)
 | [],k,q,_,_=>by show some q=_; simp [ptsB,tfB]
 | v::V,k,q,h,hl=>by
  simp only [List.length_cons,Nat.succ_mul] at hl
  have hv:=h v (by simp)
  have h3:=Yc 44 v
  have hst:Za k v q=some (.inl (q++tfB (spl 44 v))):=by
   unfold Za jj
   rw [if_pos ⟨by omega,by simp⟩,z38]
   simp only [Option.bind_some]
   rw [if_pos (by omega)]
   exact y70 (spl 44 v) 0 q (fun x hx=>by have:=z39 44 v x hx; omega) (by omega)
  show (Za k v q).bind _=_
  rw [hst]
  have h1:=y6o (spl 44 v)
  refine Eq.trans (y71 V (k+1) (q++tfB (spl 44 v)) (fun y hy=>h y (List.mem_cons_of_mem _ hy)) (by simp only [List.length_append]; omega)) ?_
  unfold ptsB
  rw [List.map_cons,List.flatten_cons,y6p,List.append_assoc]
theorem y7z (V:List Bs) (h:vlP V):Yn V=some (ptsB V):=by
 obtain ⟨h1,h2⟩:=h
 unfold Yn
 rw [if_pos (by omega),y71 V 0 [] h2 (by simp; omega)]; rfl
def idxB (ns:List Bs) (nm:Bs):Int:=fdx (fun x=>decide (nm=x)) 0 ns
theorem y9u (ns:List Bs) (nm:Bs) (h:ns.length≤1000000000):Wr ns nm=some (idxB ns nm):=
 y4r ns (p:=fun x=>some (decide (nm=x))) (fun x=>decide (nm=x)) h fun _ _=>rfl
def flN:List Bs:=[[110,111,45,115,116,111,114,101],[110,111,45,99,97,99,104,101],[112,114,105,118,97,116,101],[112,117,98,108,105,99],[109,117,115,116,45,114,101,118,97,108,105,100,97,116,101],[111,110,108,121,45,105,102,45,99,97,99,104,101,100]]
def cnN:List Bs:=[[109,97,120,45,97,103,101],[115,45,109,97,120,97,103,101],[115,116,97,108,101,45,119,104,105,108,101,45,114,101,118,97,108,105,100,97,116,101],[115,116,97,108,101,45,105,102,45,101,114,114,111,114],[109,97,120,45,115,116,97,108,101],[109,105,110,45,102,114,101,115,104]]
theorem y9w {ns:List Bs} {nm:Bs} (h:0≤idxB ns nm):∃ j:Nat,idxB ns nm=(j:Int)∧j < ns.length∧nm∈ns:=by
 obtain ⟨_,x,h2,h3⟩:=(z2s (fun x=>decide (nm=x)) ns 0).2 h
 refine ⟨(idxB ns nm).toNat,by omega,?_,?_⟩
 ·have:=(List.getElem?_eq_some_iff.1 h2).1
  exact this
 ·have e:nm=x:=by simpa using h3
  rw [e]; exact List.mem_of_getElem? h2
theorem w1r:∀ j:Nat,j < 6→at? ([0,1,2,3,4,5]:List Int) (j:Int)=some (j:Int)∧y0o (j:Int)=true:=by decide +kernel
theorem w2v:∀ j:Nat,j < 6→at? ([6,7,8,9,10,11]:List Int) (j:Int)=some (6+(j:Int))∧Zq (6+(j:Int))=true:=by decide +kernel
def nOf (v:Bs):Int:=if okN 9 v then valB v else 0
def sOK (v:Bs):Bool:=okN 9 v && !outP (valB v) 0 100000000
theorem x5t (v:Bs) (h:v.length≤1000000):z50 v=some (nOf v,sOK v):=by
 have hk:xf v 9=some (if okN 9 v then valB v else 0,okN 9 v):=y3r v 9 (by omega) h
 unfold z50 z5p z23 nOf sOK
 rw [hk]
 simp only [Option.bind_some]
 cases okN 9 v
 ·rfl
 ·simp only [if_true,z4h,Option.bind_some,Bool.true_and]
def numC (c:yr) (i n:Int):yr:=if Yx c (6+i)=-1∨n < Yx c (6+i) then z8e c (6+i) n else c
def uk (c:yr) (x:Bs):Bool×yr:=
 let r:=Lib.cut x [61]
 if !tokB r.1 || (r.2.2 && !sOK r.2.1) then (false,c)
 else if 0≤idxB flN (lo r.1) then (!r.2.2,y18 c (idxB flN (lo r.1)) true)
 else if idxB cnN (lo r.1) < 0 then (true,c)
 else (r.2.2,numC c (idxB cnN (lo r.1)) (nOf r.2.1))
theorem x3q (c:yr) (x:Bs) (h:x.length≤1000000):z2b c x=some (uk c x):=by
 obtain ⟨c1,c2,c3,c4⟩:=w2n x 61
 unfold z2b uk Zi
 rw [if_pos (by omega)]
 simp only [Option.bind_some]
 generalize Lib.cut x [61]=r at *
 rw [x5t _ (by omega),y4d _ (by omega)]
 simp only [Option.bind_some]
 cases ht:tokB r.1
 ·rfl
 simp only [Bool.not_true,Bool.false_or]
 cases hs:(r.2.2 && !sOK r.2.1)
 ·simp only [Bool.false_eq_true,if_false]
  have hlow:Zg r.1=some (lo r.1):=by
   unfold Zg
   rw [if_pos ⟨by omega,x3t ht⟩]
  have hf:z9n=some (flN,[0,1,2,3,4,5]):=rfl
  have hc:z52=some (cnN,[6,7,8,9,10,11]):=rfl
  rw [hlow,hf,hc]
  simp only [Option.bind_some]
  rw [y9u flN (lo r.1) (by decide),y9u cnN (lo r.1) (by decide)]
  simp only [Option.bind_some]
  by_cases h0:0≤idxB flN (lo r.1)
  ·obtain ⟨j,j1,j2,_⟩:=y9w h0
   obtain ⟨a1,a2⟩:=w1r j j2
   rw [if_pos (by simpa using h0),if_pos h0,j1,a1]
   simp only [Option.bind_some]
   rw [if_pos a2]
  ·rw [if_neg (by simpa using h0),if_neg h0]
   by_cases h1:idxB cnN (lo r.1) < 0
   ·rw [if_pos (by simpa using h1),if_pos h1]
   ·rw [if_neg (by simpa using h1),if_neg h1]
    obtain ⟨j,j1,j2,_⟩:=y9w (show 0≤idxB cnN (lo r.1) by omega)
    obtain ⟨a1,a2⟩:=w2v j j2
    unfold z2y z2z numC
    rw [j1,a1]
    simp only [Option.bind_some,a2,if_true]
    by_cases hg:Yx c (6+(j:Int))=-1
    ·rw [if_pos (by simpa using hg),if_pos (Or.inl hg)]
    ·rw [if_neg (by simpa using hg)]
     by_cases hn:nOf r.2.1 < Yx c (6+(j:Int))
     ·rw [if_pos (by simpa using hn),if_pos (Or.inr hn)]
     ·rw [if_neg (by simpa using hn),if_neg (by simp [hg,hn])]
 ·simp
abbrev Tst:=Bool×Bool×Int×Int×Bool×Bool×Bool×Bool×Int×Int×Int×Int
def tc (s:Tst):yr:=yr.mk s.1 s.2.1 s.2.2.2.2.1 s.2.2.2.2.2.1 s.2.2.2.2.2.2.1 s.2.2.2.2.2.2.2.1 s.2.2.2.2.2.2.2.2.1 s.2.2.2.2.2.2.2.2.2.1 s.2.2.2.2.2.2.2.2.2.2.1 s.2.2.2.2.2.2.2.2.2.2.2 s.2.2.1 s.2.2.2.1
def ct (c:yr):Tst:=(c.NoStore,c.NoCache,c.MaxStale,c.MinFresh,c.Private,c.Public,c.Must,c.Only,c.MaxAge,c.Shared,c.Stale,c.OnError)
abbrev zzT:yr×Int:=(yr.mk false false false false false false 0 0 0 0 0 0,9)
def stT (c:yr) (x:Bs):Tst ⊕ (yr×Int):=if (uk c x).1 then .inl (ct (uk c x).2) else .inr zzT
theorem x6z (k:Nat) (x:Bs) (c:yr) (h:x.length≤1000000):z0m k x c.NoStore c.NoCache c.MaxStale c.MinFresh c.Private c.Public c.Must c.Only c.MaxAge c.Shared c.Stale c.OnError=some (stT c x):=by
 unfold z0m stT
 show (z2b c x).bind _=_
 rw [x3q c x h]
 simp only [Option.bind_some]
 cases (uk c x).1 <;> rfl
abbrev ccL:Bs:=[99,97,99,104,101,45,99,111,110,116,114,111,108]
abbrev c0:Tst:=(false,false,-1,-1,false,false,false,false,-1,-1,-1,-1)
theorem x6y (l:List yj):z2c l=z60 l false false (-1) (-1) false false false false (-1) (-1) (-1) (-1):=rfl
theorem x8a:y3m=some true:=by
 have hcr:z5m (kl.mk 200 [yj.mk ccL [109,97,120,45,97,103,101,61,50]] [])=some 0:=by
  have h1:=(y9z [yj.mk ccL [109,97,120,45,97,103,101,61,50]] ⟨by simp,fun h hh=>by rw [List.mem_singleton.1 hh]; exact ⟨by decide,by decide⟩⟩).1
  have h2:hdsE [yj.mk ccL [109,97,120,45,97,103,101,61,50]]=0:=by decide +kernel
  rw [h2] at h1
  unfold z5m
  rw [z4h]
  simp only [Option.bind_some]
  rw [h1]
  rfl
 have hnm:∀ x,x∈[yj.mk ccL [109,97,120,45,97,103,101,61,50]]→nmOK x:=fun x hx=>by rw [List.mem_singleton.1 hx]; exact ⟨by decide +kernel,by decide⟩
 have hv:=(z67 [yj.mk ccL [109,97,120,45,97,103,101,61,50]] ccL (by simp) hnm ⟨rfl,by decide⟩).1
 have hv2:=(z67 [yj.mk ccL [109,97,120,45,97,103,101,61,50]] [118,97,114,121] (by simp) hnm ⟨rfl,by decide⟩).1
 have e1:kt ccL [yj.mk ccL [109,97,120,45,97,103,101,61,50]]=[[109,97,120,45,97,103,101,61,50]]:=by decide +kernel
 have e2:kt [118,97,114,121] [yj.mk ccL [109,97,120,45,97,103,101,61,50]]=[]:=by decide +kernel
 rw [e1] at hv
 rw [e2] at hv2
 have p1:=y7z [[109,97,120,45,97,103,101,61,50]] ⟨by simp,by simp⟩
 have p2:=y7z [] ⟨by simp,by simp⟩
 have e3:ptsB [[109,97,120,45,97,103,101,61,50]]=[[109,97,120,45,97,103,101,61,50]]:=by decide +kernel
 rw [e3] at p1
 have hpar:z2c [yj.mk ccL [109,97,120,45,97,103,101,61,50]]=some ((uk (tc c0) [109,97,120,45,97,103,101,61,50]).2,0):=by
  rw [x6y]
  unfold z60
  show (kh _ ccL).bind _=_
  rw [hv]
  simp only [Option.bind_some]
  rw [p1]
  simp only [Option.bind_some]
  rw [if_pos (by simp)]
  have a:=x6z 0 [109,97,120,45,97,103,101,61,50] (tc c0) (by simp)
  show (z0m 0 [109,97,120,45,97,103,101,61,50] false false (-1) (-1) false false false false (-1) (-1) (-1) (-1)).bind _=_
  have a':z0m 0 [109,97,120,45,97,103,101,61,50] false false (-1) (-1) false false false false (-1) (-1) (-1) (-1)=some (stT (tc c0) [109,97,120,45,97,103,101,61,50]):=a
  rw [a']
  have e4:(uk (tc c0) [109,97,120,45,97,103,101,61,50]).1=true:=by decide +kernel
  unfold stT
  rw [e4]
  rfl
 have hvy:z5z (kl.mk 200 [yj.mk ccL [109,97,120,45,97,103,101,61,50]] [])=some ([],false,0):=by
  unfold z5z
  show (kh [yj.mk ccL [109,97,120,45,97,103,101,61,50]] [118,97,114,121]).bind _=_
  rw [hv2]
  simp only [Option.bind_some]
  rw [p2]
  have e0:ptsB []=[]:=rfl
  rw [e0]
  simp only [Option.bind_some]
  rw [if_pos (by simp)]
  show z6z []=_
  have hi:Wr [] [42]=some (-1):=rfl
  have hs:xe []=some []:=by
   unfold xe
   rw [if_pos (by simp)]
   simp
  unfold z6z Ws Wy um
  rw [hi]
  simp only [Option.bind_some]
  rw [if_neg (by simp),if_pos (by simp)]
  simp only [Option.bind_some]
  rw [hs]
  rfl
 have f1:(uk (tc c0) [109,97,120,45,97,103,101,61,50]).2.NoCache=false:=by decide +kernel
 have f2:(uk (tc c0) [109,97,120,45,97,103,101,61,50]).2.Shared=-1:=by decide +kernel
 have f3:(uk (tc c0) [109,97,120,45,97,103,101,61,50]).2.MaxAge=2:=by decide +kernel
 have hlt:z55 (uk (tc c0) [109,97,120,45,97,103,101,61,50]).2=some 2000:=by
  unfold z55
  rw [f1,f2,f3]
  rfl
 unfold y3m z56
 rw [hcr]
 simp only [Option.bind_some]
 rw [if_neg (by simp)]
 show ((z2c [yj.mk ccL [109,97,120,45,97,103,101,61,50]]).bind _).bind _=_
 rw [hpar]
 simp only [Option.bind_some]
 rw [if_neg (by simp)]
 rw [hvy]
 simp only [Option.bind_some]
 rw [if_neg (by simp),hlt]
 rfl
theorem w1x:z12=some true:=by
 have hk:=x8a
 unfold y3m at hk
 have hs:=x5h
 unfold y3l at hs
 obtain ⟨a,a1,a2⟩:=bnd hk
 obtain ⟨b,b1,b2⟩:=bnd hs
 simp only [Option.some.injEq,Bool.and_eq_true,decide_eq_true_eq] at a2 b2
 have h3:z87 [vo.mk [97] 1] 2=some ([[97],[97]],0):=by decide +kernel
 have h4:Ze [97,98]=some [89,87,73]:=by
  unfold Ze
  exact Yr.2 ⟨3,by decide +kernel⟩
 unfold z12 un
 rw [a1,b1,h3,h4]
 simp [a2.1,a2.2,b2.1,b2.2]
theorem y7t {k:Int} {s:qq} (h:SB k s) (hk:k≤1000000):Ok (z17 s) fun r=>(r.1.length≤4∧∀ x,x∈r.1→x.length≤5)∧SB (k+5) r.2:=by
 unfold z17
 refine wa (y7w h (by omega) 0 4 (by omega)) fun r2 h2=>ok_g (by omega) ?_
 obtain ⟨m,hm⟩:∃ m:Nat,r2.1=(m:Int):=⟨r2.1.toNat,by omega⟩
 rw [hm,Int.toNat_natCast]
 refine y78 (fun j (q:List Int×Int×List Bs)=>j≤4∧SB (k+1+(j:Int)) (qq.mk q.1 q.2.1)∧q.2.2.length≤j∧∀ x,x∈q.2.2→x.length≤5) m 0 _ ⟨by omega,h2.2.mono (by omega),by simp,by simp⟩ ?_ ?_
 ·rintro j ⟨a,b,l⟩ _ hj ⟨h0,h1,h3,h4⟩
  simp only at h1 h3 h4 ⊢
  unfold y0d
  refine wa (z4b h1 (by omega) _ ⟨by simp,by simp⟩) fun r hr=>ok_g (by omega) (wv ⟨by omega,hr.2.mono (by omega),by simp; omega,fun x hx => ?_⟩)
  rcases List.mem_append.1 hx with hx | hx
  ·exact h4 x hx
  ·obtain rfl:x=r.1:=(by simpa using hx)
   have:=hr.1
   simp only [List.mem_cons,List.not_mem_nil,or_false] at this
   rcases this with e | e | e | e | e | e | e | e | e <;> rw [e] <;> decide
 ·rintro ⟨a,b,l⟩ ⟨h0,h1,h3,h4⟩
  simp only at h1 h3 h4 ⊢
  unfold y0e
  exact wv ⟨⟨by simp only; omega,h4⟩,h1.mono (by omega)⟩
structure CS5 (c:zm):Prop where
 id:c.Id.length≤10
 subject:c.Subject.length≤10
 issuer:c.Issuer.length≤10
 parent:c.Parent.length≤10
 aud:c.Audience=[]
 sc:c.Scopes.length≤5∧∀ x,x∈c.Scopes→x.length≤5
 fr:0≤c.From∧c.From≤100
 tu:c.From < c.To∧c.To≤300
theorem CS5.sm {c:zm} (h:CS5 c):CSm c:=
 ⟨h.id,h.subject,h.issuer,h.parent,by rw [h.aud]; exact ⟨by simp,by simp⟩,⟨h.sc.1,fun x hx=>by have:=h.sc.2 x hx; omega⟩,by have:=h.fr; omega,by have:=h.fr; have:=h.tu; omega⟩
theorem CS5.len {c:zm} (h:CS5 c):(txC c).length≤400:=by
 have h2:=y4b 5 [32] c.Scopes h.sc.2
 have h4:c.Scopes.length * (5+([32]:Bs).length)≤5 * 6:=Nat.mul_le_mul h.sc.1 (by simp)
 have hf:=h.fr
 have ht:=h.tu
 have h5:=(z0c c.From (by omega)).1
 have h6:=(z0c c.To (by omega)).1
 have a1:=h.id; have a2:=h.subject; have a3:=h.issuer; have a4:=h.parent
 have hp:(parL c).length≤20:=by
  unfold parL
  split
  ·simp; omega
  ·simp
 have hf:(Zo c).length≤10:=by
  unfold Zo
  rw [h.aud]
  simp
 have hm:(mayL c).length≤40:=by
  unfold mayL
  split
  ·simp; omega
  ·simp
 rw [y1p h.sm.wb]
 unfold hdC
 simp; omega
theorem x6g {k:Int} {s:qq} (h:SB k s) (hk:k≤100000):Ok (z5y s) fun r=>CS5 (zm.mk r.1.Id r.1.Subject [103,97,116,101] [] [] r.1.Scopes r.1.From r.1.To)∧SB (k+20) r.2:=by
 unfold z5y
 refine wa (z4b h (by omega) _ ⟨by simp,by simp⟩) fun r2 h2=>wa (z4b h2.2 (by omega) _ ⟨by simp,by simp⟩) fun r4 h4=>wa (z4b h4.2 (by omega) _ ⟨by simp,by simp⟩) fun r6 h6=>wa (z4b h6.2 (by omega) _ ⟨by simp,by simp⟩) fun r8 h8=>wa (z8u h8.2 (by omega) _ (by omega)) fun r10 h10 => ?_
 refine wa (w3n _ _ ⟨h10.1.1,by have:=h10.1.2.1 (by omega); simp; omega⟩) fun x12 h12=>wa (y7t h10.2 (by omega)) fun r14 h14 => ?_
 have hsh:Sh r14.1:=⟨by have:=h14.1.1; omega,fun x hx=>by have:=h14.1.2 x hx; omega⟩
 rw [x7y r14.1 hsh]
 simp only [Option.bind_some]
 refine wa (y7y h14.2 (by omega) _ ⟨by simp,by simp⟩) fun r18 h18=>wa (y7y h18.2 (by omega) _ ⟨by simp,by simp⟩) fun r20 h20 => ?_
 have b18:0≤r18.1∧r18.1≤100:=by
  have:=h18.1
  simp only [List.mem_cons,List.not_mem_nil,or_false] at this
  omega
 have b20:1≤r20.1∧r20.1≤200:=by
  have:=h20.1
  simp only [List.mem_cons,List.not_mem_nil,or_false] at this
  omega
 have e:wr (r18.1+r20.1)=r18.1+r20.1:=qw (by omega)
 rw [e]
 refine wv ⟨⟨y8d h2.1 (by decide),y8d h4.1 (by decide),by simp,by simp,rfl,⟨?_,fun x hx => ?_⟩,by simp only; omega,by simp only; omega⟩,h20.2.mono (by omega)⟩
 ·have:=z9q r14.1
  have:=h14.1.1
  simp only; omega
 ·have:=((z57 r14.1 x).1 hx).1
  exact h14.1.2 x this
def sgT:yh:=yh.mk [115,49] [111,110,101] 0 1000 2000
def kpT:vg:=vg.mk [103,97,116,101] [115,104,111,112] [sgT] [] [] 0
theorem y7h:SgB [sgT]:=⟨by simp,fun x hx=>by obtain rfl:x=sgT:=(by simpa using hx); exact ⟨by decide,by decide⟩⟩
theorem y7g:Yh [sgT]=some 0:=by
 rw [x0w [sgT] y7h]
 exact congrArg some (by decide +kernel)
theorem x5o:z4r [sgT] 5=some (sgT,true):=by
 unfold z4r
 rw [if_pos (by decide)]
 rfl
theorem x77:KeB kpT:=⟨by decide,by decide,y7h,⟨by decide,fun x hx=>by cases hx⟩,⟨by decide,(fun x hx=>by cases hx),(fun x hx=>by cases hx)⟩⟩
theorem x76:z1t kpT=some 0:=by
 rw [w20 kpT x77]
 exact congrArg some (by decide +kernel)
def vv (c:zm):Bs:=([115,49]++[46])++encP (txC c)
theorem w01 {c:zm} (hc:CS5 c) (h0:clF c=0):∃ sm,smB sm=true∧kz [111,110,101] (vv c)=some sm∧z47 [sgT] c 5=some ((vv c++[46])++sm,0):=by
 have hl:=hc.len
 have hel:=y0i (txC c)
 have hbl:(vv c).length≤1000:=by unfold vv; simp; omega
 obtain ⟨sm,s1,s2⟩:=x4d [111,110,101] (vv c) (by decide) (by omega)
 have hsl:sm.length=16:=by
  unfold smB at s2
  simp only [Bool.and_eq_true,decide_eq_true_eq] at s2
  exact s2.1
 refine ⟨sm,s2,s1,?_⟩
 have ht:Yg (zm.mk c.Id c.Subject c.Issuer c.Parent c.Audience c.Scopes c.From c.To)=some (txC c,0):=by
  have:=x3v c hc.sm.cl
  rw [if_neg (by simp [h0]),if_neg (by omega)] at this
  exact this
 unfold z47
 rw [y7g]
 simp only [Option.bind_some]
 rw [if_neg (by decide),ht]
 simp only [Option.bind_some]
 rw [if_neg (by simp),y8b]
 simp only [Option.bind_some]
 rw [show (if momP 5=true then (0:Int) else 1)=0 from by decide,if_neg (by decide),x5o]
 simp only [Option.bind_some]
 have htu:=hc.tu.2
 rw [if_neg (by decide),if_neg (by show ¬ decide (sgT.Until < c.To)=true; have:sgT.Until=2000:=rfl; rw [this]; simp; omega),if_pos (by decide),x0m _ (by omega)]
 simp only [Option.bind_some]
 have hb:(sgT.Id++[46])++encP (txC c)=vv c:=rfl
 have hb2:(sgT.Id++[46]).length+(encP (txC c)).length≤1000000000:=by rw [← List.length_append,hb]; omega
 rw [if_pos hb2,hb,if_pos (by simp only [List.length_cons,List.length_nil]; omega),show sgT.Secret=[111,110,101] from rfl,s1]
 simp only [Option.bind_some]
 rw [if_pos (by simp only [List.length_append,List.length_cons,List.length_nil]; omega)]
theorem y93 (c:UInt8) (h:gdB c=true):c≠46∧outP (c.toNat:Int) 33 126=false:=by
 have:=ug (fun c => !gdB c || (decide (c≠46) && !outP (c.toNat:Int) 33 126)) (by decide +kernel) c
 rw [h] at this
 simpa using this
theorem y4c (c:UInt8) (h:isX c=true):c≠46∧c≠32∧outP (c.toNat:Int) 33 126=false:=by
 have:=ug (fun c => !isX c || (decide (c≠46) && (decide (c≠32) && !outP (c.toNat:Int) 33 126))) (by decide +kernel) c
 rw [h] at this
 simpa using this
theorem y7c {sm:Bs} (h:smB sm=true):sm.length=16∧sm.all isX=true∧∃ a x,sm=a++[x]∧isX x=true:=by
 unfold smB at h
 simp only [Bool.and_eq_true,decide_eq_true_eq] at h
 refine ⟨h.1,h.2,?_⟩
 rcases List.eq_nil_or_concat sm with rfl | ⟨a,x,rfl⟩
 ·simp at h
 ·rw [List.concat_eq_append] at h ⊢
  refine ⟨a,x,rfl,?_⟩
  rw [List.all_append] at h
  have h2:=h.2
  simp only [Bool.and_eq_true,List.all_cons,List.all_nil,and_true] at h2
  exact h2.2
theorem x65 {c:zm} (hc:CS5 c) (h0:clF c=0) {sm:Bs} (s2:smB sm=true) (s1:kz [111,110,101] (vv c)=some sm) (at_:Int) (ha:0≤at_∧at_ < 2000):z45 [sgT] ((vv c++[46])++sm) at_=some (c,0):=by
 have hl:=hc.len
 have hel:=y0i (txC c)
 have hbl:(vv c).length≤1000:=by unfold vv; simp; omega
 obtain ⟨p1,p2,_⟩:=y7c s2
 have hed:=y0h (txC c)
 have n1:(46:UInt8) ∉ encP (txC c):=fun hm=>(y93 46 (List.all_eq_true.1 hed.1 46 hm)).1 rfl
 have n2:(46:UInt8) ∉ sm:=fun hm=>(y4c 46 (List.all_eq_true.1 p2 46 hm)).1 rfl
 have hsp:spl 46 ((vv c++[46])++sm)=[[115,49],encP (txC c),sm]:=by
  have e:(vv c++[46])++sm=[115,49]++46::(encP (txC c)++46::sm):=by unfold vv; simp
  rw [e,splA 46 _ [115,49] (by decide),splA 46 _ _ n1,splN 46 sm n2]
 have hrd:=x6m c h0 hc.aud (by omega) (by have:=hc.fr; omega) (by have:=hc.fr; have:=hc.tu; omega)
 have hmo:momP at_=true:=by
  unfold momP
  simp only [Bool.and_eq_true,decide_eq_true_eq]
  omega
 have hix:z1v [sgT] (fun (a0:yh)=>z44 a0 [[115,49],encP (txC c),sm])=some 0:=by
  unfold z1v
  rw [if_pos (by decide)]
  rfl
 unfold z45
 rw [y7g]
 simp only [Option.bind_some]
 rw [if_neg (by decide),y8b,hmo]
 simp only [Option.bind_some,if_true]
 rw [if_neg (by decide),y19 _ 46 (by simp; omega),hsp]
 simp only [Option.bind_some]
 rw [if_neg (by simp)]
 simp only [List.getElem?_cons_zero,Option.bind_some]
 rw [kk _ (by decide),show keyP [115,49]=true from by decide]
 simp only [Option.bind_some,Bool.not_true]
 unfold z02
 rw [if_neg (by decide),hix]
 simp only [Option.bind_some]
 rw [if_neg (by decide),show at? [sgT] 0=some sgT from rfl]
 simp only [Option.bind_some,List.getElem?_cons_zero,List.getElem?_cons_succ]
 rw [if_pos (by decide),if_pos (by simp; omega)]
 have hb:([115,49]++[46])++encP (txC c)=vv c:=rfl
 rw [hb,show sgT.Secret=[111,110,101] from rfl,s1]
 simp only [Option.bind_some]
 rw [if_neg (by simp),w2b _ (by omega),w2f]
 simp only [Option.bind_some]
 rw [if_neg (by simp),x6n _ (by omega),hrd]
 simp only [Option.bind_some]
 have e1:sgT.From=0:=rfl
 have e2:sgT.Until=2000:=rfl
 rw [if_neg (by simp),e1,e2,if_neg (by simp; omega)]
 unfold z01
 rw [if_neg (by simp; omega)]
theorem w3x {c:zm} (hc:CS5 c) (h0:clF c=0) (hi:c.Issuer=[103,97,116,101]) {sm:Bs} (s2:smB sm=true) (s1:kz [111,110,101] (vv c)=some sm) (at_:Int) (ha:c.From≤at_∧at_ < c.To):z42 kpT ((vv c++[46])++sm) at_=some (c,0):=by
 have hf:=hc.fr
 have ht:=hc.tu
 unfold z42
 rw [show kpT.Signers=[sgT] from rfl,x65 hc h0 s2 s1 at_ (by omega)]
 simp only [Option.bind_some]
 rw [if_neg (by simp),show kpT.Issuer=[103,97,116,101] from rfl,if_neg (by simp [hi]),if_neg (by simp [hc.aud])]
 unfold Qg
 have e1:wr (c.From - kpT.Skew)=c.From:=by rw [show kpT.Skew=0 from rfl,Int.sub_zero]; exact qw (by omega)
 have e2:wr (c.To+kpT.Skew)=c.To:=by rw [show kpT.Skew=0 from rfl,Int.add_zero]; exact qw (by omega)
 rw [if_neg (by simp),e1,e2,if_neg (by simp; omega)]
 rfl
theorem x3m {s:Bs} {x y:UInt8} {a b:Bs} (h1:s=x::a) (hx:x≠32) (h2:s=b++[y]) (hy:y≠32):trL 32 (trR 32 s)=s:=by
 rw [h2,y6m,if_neg hy,← h2,h1]
 unfold trL
 rw [List.dropWhile_cons,if_neg (by simpa using hx)]
def auT:Bs:=[97,117,116,104,111,114,105,122,97,116,105,111,110]
def akT:Bs:=[120,45,97,112,105,45,107,101,121]
def rqT (at_:Int) (hs:List yj):ud:=ud.mk at_ [71,69,84] [97,46,98] [47] [] [] hs []
theorem x6c (at_:Int) (hm:momP at_=true) (hs:List yj) (hh:hdsP hs) (h0:hdsE hs=0):z5n (rqT at_ hs)=some 0:=by
 have hho:z1x [97,46,98]=some true:=by
  rw [w04 _ (by decide)]
  decide +kernel
 unfold z5n Yf rqT
 simp only
 rw [y9r,hm,y4d _ (by decide),show tokB [71,69,84]=true from by decide +kernel,hho,x6x _ (by decide),show pthB [47]=true from by decide +kernel,x6q _ (by decide),show qryB []=true from by decide +kernel,y4f _ (by decide),show fldB []=true from by decide +kernel,(y9z hs hh).1,h0]
 rfl
theorem x03 {c:zm} (hc:CS5 c) (h0:clF c=0) (hi:c.Issuer=[103,97,116,101]) (at_:Int) (ha:c.From≤at_∧at_ < c.To):z13 c kpT at_=some (qg.mk 1 c.Subject c.Scopes,true):=by
 have hf:=hc.fr
 have ht:=hc.tu
 have hl:=hc.len
 have hel:=y0i (txC c)
 have hbl:(vv c).length≤900:=by unfold vv; simp; omega
 obtain ⟨sm,s2,s1,s3⟩:=w01 hc h0
 obtain ⟨p1,p2,sa,sx,p3,p4⟩:=y7c s2
 have hed:=y0h (txC c)
 generalize htk:(vv c++[46])++sm=tk at *
 have htl:tk.length≤1000:=by rw [← htk]; simp; omega
 have hmo:momP at_=true:=by
  unfold momP
  simp only [Bool.and_eq_true,decide_eq_true_eq]
  omega
 have hv:fldB ([66,101,97,114,101,114,32]++tk)=true:=by
  unfold fldB
  simp only [Bool.and_eq_true,decide_eq_true_eq]
  refine ⟨by simp; omega,?_,?_⟩
  ·unfold rgB
   rw [← htk]
   unfold vv
   simp only [List.all_append,Bool.and_eq_true]
   refine ⟨by decide,⟨⟨⟨⟨by decide,by decide⟩,?_⟩,by decide⟩,?_⟩⟩
   ·refine List.all_eq_true.2 fun x hx => ?_
    have:=(y93 x (List.all_eq_true.1 hed.1 x hx)).2
    unfold outP at this ⊢
    simp at this ⊢
    omega
   ·refine List.all_eq_true.2 fun x hx => ?_
    have:=(y4c x (List.all_eq_true.1 p2 x hx)).2.2
    unfold outP at this ⊢
    simp at this ⊢
    omega
  ·refine x3m (x:=66) (y:=sx) rfl (by decide) (b:=[66,101,97,114,101,114,32]++((vv c++[46])++sa)) ?_ (y4c sx p4).2.1
   rw [← htk,p3]; simp
 have hvl:([66,101,97,114,101,114,32]++tk).length≤2000:=by simp; omega
 generalize hval:([66,101,97,114,101,114,32]++tk:Bs)=v at *
 have hhs:hdsP [yj.mk auT v]:=⟨by simp,fun y hy=>by
  obtain rfl:y=yj.mk auT v:=(by simpa using hy)
  exact ⟨(by show auT.length≤_; decide),(by simp only; omega)⟩⟩
 have hh0:hdsE [yj.mk auT v]=0:=by
  unfold hdsE hdE feI feI
  simp [hv,show tokB auT=true from by decide +kernel]
 have hnm:∀ x,x∈[yj.mk auT v]→nmOK x:=fun y hy=>by
  obtain rfl:y=yj.mk auT v:=(by simpa using hy)
  exact ⟨(by show ascB auT=true; decide),(by show auT.length≤_; decide)⟩
 have hV1:kh [yj.mk auT v] auT=some [v]:=by
  rw [(z67 [yj.mk auT v] auT (by simp) hnm ⟨by decide,by decide⟩).1]
  simp [kt,nmB]
 have hV2:kh [yj.mk auT v] akT=some []:=by
  rw [(z67 [yj.mk auT v] akT (by simp) hnm ⟨by decide,by decide⟩).1]
  have:decide (lo auT=lo akT)=false:=by decide
  simp [kt,nmB,this]
 have hcp:z5e v [66,101,97,114,101,114,32]=some (tk,true):=by
  rw [← hval]
  have e1:sub? ([66,101,97,114,101,114,32]++tk) 0 (([66,101,97,114,101,114,32]:Bs).length:Int)=some [66,101,97,114,101,114,32]:=by
   unfold sub?
   rw [if_pos (by simp only [List.length_append,List.length_cons,List.length_nil]; omega)]
   simp
  have e2:sub? ([66,101,97,114,101,114,32]++tk) (([66,101,97,114,101,114,32]:Bs).length:Int) ((([66,101,97,114,101,114,32]++tk).length:Nat):Int)=some tk:=by
   have hn:([66,101,97,114,101,114,32]++tk:Bs).length=7+tk.length:=by simp; omega
   unfold sub?
   rw [if_pos (by rw [hn]; simp only [List.length_cons,List.length_nil]; omega)]
   refine congrArg some ?_
   rw [hn]
   rw [show ((((7+tk.length:Nat):Int)).toNat - ((([66,101,97,114,101,114,32]:Bs).length:Int)).toNat)=tk.length from by simp only [List.length_cons,List.length_nil]; omega]
   show List.take tk.length tk=tk
   exact List.take_length
  unfold z5e z9j z9i z2h
  rw [if_pos (by simp; omega),e1]
  simp only [Option.bind_some,decide_true,Bool.not_true,Bool.false_eq_true,if_false]
  rw [e2]; rfl
 have hbt:z1s kpT v at_=some (qg.mk 1 c.Subject c.Scopes,0):=by
  unfold z1s
  rw [hcp]
  simp only [Option.bind_some]
  have htn:tk≠[]:=by rw [← htk]; simp
  rw [if_neg (by simp [htn]),← htk,w3x hc h0 hi s2 s1 at_ ha]
  rfl
 have hC:z1u kpT (rqT at_ [yj.mk auT v])=some (qg.mk 1 c.Subject c.Scopes,0):=by
  unfold z1u
  rw [x76]
  simp only [Option.bind_some]
  rw [if_neg (by decide),x6c at_ hmo _ hhs hh0]
  simp only [Option.bind_some]
  rw [if_neg (by decide)]
  show (kh [yj.mk auT v] auT).bind _=_
  rw [hV1]
  simp only [Option.bind_some]
  show (kh [yj.mk auT v] akT).bind _=_
  rw [hV2]
  simp only [Option.bind_some]
  rw [if_neg (by simp),if_neg (by simp),if_pos (by simp),List.getElem?_cons_zero]
  simp only [Option.bind_some]
  show (z1s kpT v at_).bind _=_
  rw [hbt]; rfl
 unfold z13
 rw [show kpT.Signers=[sgT] from rfl,s3]
 simp only [Option.bind_some]
 rw [if_pos (by simp; omega),hval]
 show (z1u kpT (rqT at_ [yj.mk auT v])).bind _=_
 rw [hC]; rfl
theorem x3p (L:List Int):z9l L=some true:=by
 refine y2u ?_
 unfold z9l
 rw [w1x]
 refine wa (x6g (k:=0) ⟨by simp,by simp⟩ (by omega)) fun r2 h2=>wa (y7t h2.2 (by omega)) fun r4 h4 => ?_
 have hc:=h2.1
 have hsh:Sh r4.1:=⟨by have:=h4.1.1; omega,fun x hx=>by have:=h4.1.2 x hx; omega⟩
 generalize hcc:zm.mk r2.1.Id r2.1.Subject [103,97,116,101] [] [] r2.1.Scopes r2.1.From r2.1.To=c at *
 have e1:r2.1.From=c.From:=by rw [← hcc]
 have e2:r2.1.To=c.To:=by rw [← hcc]
 have e3:r2.1.Subject=c.Subject:=by rw [← hcc]
 have e4:c.Issuer=[103,97,116,101]:=by rw [← hcc]
 have e5:c.Audience=[]:=by rw [← hcc]
 rw [e1,e2,e3,w19 c [116,57] [98,111,116] r4.1 (jm.mk c.From c.To) hc.sm.cl (by decide) (by decide) hsh]
 simp only [Option.bind_some]
 refine z1d (fun _=>wv rfl) (fun hd => ?_)
 have hd0:(dgF c [116,57] [98,111,116] r4.1 (jm.mk c.From c.To)).2=0:=by simpa using hd
 unfold dgF at hd0 ⊢
 have hE:dgE c [116,57] [98,111,116] r4.1 (jm.mk c.From c.To)=0:=by
  by_cases h:dgE c [116,57] [98,111,116] r4.1 (jm.mk c.From c.To)=0
  ·exact h
  ·rw [if_pos h] at hd0; exact absurd hd0 h
 rw [if_neg (by simp [hE])]
 have hE2:=hE
 unfold dgE at hE2
 have hc0:clF c=0:=by
  by_cases h:clF c=0
  ·exact h
  ·rw [if_pos h] at hE2; exact absurd hE2 h
 rw [if_neg (by simp [hc0])] at hE2
 have hs0:scF r4.1=0:=by
  by_cases h:scF r4.1=0
  ·exact h
  ·rw [if_pos h] at hE2; exact absurd hE2 h
 rw [if_neg (by simp [hs0]),if_neg (by decide)] at hE2
 split at hE2
 ·cases hE2
 split at hE2
 ·cases hE2
 rename_i hcv
 have hcv2:cvA c.Scopes r4.1=true:=by
  simp only [Bool.or_eq_true,Bool.not_eq_true',decide_eq_true_eq,not_or] at hcv
  simpa using hcv.1.1
 have hd5:CS5 (dgC c [116,57] [98,111,116] r4.1 (jm.mk c.From c.To)):=by
  unfold dgC
  refine ⟨(by show ([116,57]:Bs).length≤10; decide),(by show ([98,111,116]:Bs).length≤10; decide),(by show c.Issuer.length≤10; rw [e4]; decide),hc.id,e5,⟨?_,fun x hx => ?_⟩,hc.fr,hc.tu⟩
  ·have:=z9q r4.1
   have:=h4.1.1
   simp only; omega
  ·exact h4.1.2 x ((z57 r4.1 x).1 hx).1
 have hf:=hc.fr
 have ht:=hc.tu
 have ew:wr ((wr (c.To - c.From)) - 1)=c.To - c.From - 1:=by rw [qw (n:=c.To - c.From) (by omega),qw (by omega)]
 rw [ew]
 refine wa (y7w h4.2 (by omega) 0 (c.To - c.From - 1) (by omega)) fun r11 h11 => ?_
 have ew2:wr (c.From+r11.1)=c.From+r11.1:=qw (by omega)
 rw [ew2]
 have hk:vg.mk [103,97,116,101] [115,104,111,112] ([(yh.mk [115,49] [111,110,101] 0 1000 2000)]) [] [] 0=kpT:=rfl
 rw [hk,x03 hc hc0 e4 _ (by omega)]
 simp only [Option.bind_some]
 rw [x03 hd5 hE2 (by unfold dgC; exact e4) _ (by unfold dgC; simp only; omega)]
 simp only [Option.bind_some]
 have hshc:Sh c.Scopes:=hc.sm.cl.sc
 have hshd:Sh (lsP r4.1):=y7f hsh
 have hscc:scF c.Scopes=0:=by
  have h:=hc0
  unfold clF at h
  split at h
  ·cases h
  split at h
  ·cases h
  split at h
  ·rename_i h1; exact absurd h h1
  unfold tlF at h
  by_cases hs:scF c.Scopes=0
  ·exact hs
  ·rw [if_pos hs] at h; exact absurd h hs
 have hscd:scF (lsP r4.1)=0:=by
  have h:=hE2
  unfold clF at h
  split at h
  ·cases h
  split at h
  ·cases h
  split at h
  ·rename_i h1; exact absurd h h1
  unfold tlF dgC at h
  by_cases hs:scF (lsP r4.1)=0
  ·exact hs
  ·rw [if_pos hs] at h; exact absurd h hs
 have hcov:z5b c.Scopes (lsP r4.1)=some (true,0):=by
  unfold z5b
  rw [x7t _ _ hshc hshd,hscc,hscd]
  simp only [Option.bind_some]
  rw [if_neg (by decide),x0r _ _ hshc hshd]
  have:cvA c.Scopes (lsP r4.1)=true:=by
   unfold cvA at hcv2 ⊢
   refine List.all_eq_true.2 fun x hx => ?_
   exact List.all_eq_true.1 hcv2 x ((z57 r4.1 x).1 hx).1
  rw [this]; rfl
 have hds:(dgC c [116,57] [98,111,116] r4.1 (jm.mk c.From c.To)).Scopes=lsP r4.1:=rfl
 have hdn:(dgC c [116,57] [98,111,116] r4.1 (jm.mk c.From c.To)).Subject=[98,111,116]:=rfl
 rw [hds,hdn,hcov]
 simp only [Option.bind_some,if_true,decide_true]
 have hll:=z9q r4.1
 have h41:=h4.1.1
 rw [x0l _ _ (by omega)]
 simp only [Option.bind_some,decide_true,if_true]
 exact wv rfl
end Go.Proofs.YtbndlmnjeofkdadGreatDoor
