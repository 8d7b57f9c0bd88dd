/- Plain: streams of headers whose names are of ASCII. -/
import Derived.Test.YtbcmpepmafpibabGreatDoorHxZo
namespace Go.Proofs.YtbcmpepmafpibabGreatDoor
set_option linter.unusedVariables false
set_option maxRecDepth 20000
theorem y7i (s:Bs) (hl:s.length≤1000000):∃ v e,xx s 16 64=some (v,e):=by
 have es:shl_ .u64 1 (IntKind.wrap .u64 (wr (64 - 1)))=9223372036854775808:=by decide +kernel
 have hJ0:∀ (b:Bool) (t:Bs),t.length≤1000000→Ok (uh 16 64 t b) fun r=>r.2=0∨r.2=1∨r.2=2:=by
  intro b t ht
  unfold uh
  refine yn (y4g t (by omega)) fun r hr => ?_
  have hJ3:Ok (Zm b r 64) fun r=>r.2=0∨r.2=1∨r.2=2:=by
   unfold Zm Qh
   rw [if_pos (by decide),es]
   refine qu (fun _=>ym (by simp)) (fun _=>qu (fun _=>ym (by simp)) (fun _=>qu (fun _=>ym (by simp)) (fun _=>ym (by simp))))
  refine qu (fun _=>ok_g (by omega) ?_) (fun _ => ?_)
  ·unfold Zn
   refine qu (fun _=>ym hr.2) (fun _ => ?_)
   rw [if_neg (by decide)]
   exact hJ3
  ·unfold Zn
   rw [if_neg (by simp),if_neg (by decide)]
   exact hJ3
 have hI:Ok (Ze s 16 64) fun r=>r.2=0∨r.2=1∨r.2=2:=by
  unfold Ze
  cases s with
  | nil=>exact ym (by simp)
  | cons c t =>
   rw [if_neg (by simp)]
   simp only [List.getElem?_cons_zero,Option.bind_some]
   have hsub:sub? (c::t) 1 ((c::t).length:Int)=some t:=by
    unfold sub?
    rw [if_pos (by simp only [List.length_cons]; omega),List.take_of_length_le (by simp)]; rfl
   rw [hsub]
   simp only [Option.bind_some]
   simp only [List.length_cons] at hl
   exact qu (fun _=>hJ0 false t (by omega)) (fun _=>qu (fun h=>hJ0 true t (by omega)) (fun _=>hJ0 false (c::t) (by simp only [List.length_cons]; omega)))
 obtain ⟨r,h1,h2⟩:=hI
 unfold xx
 rw [h1]
 simp only [Option.bind_some]
 by_cases h0:r.2=0
 ·rw [if_neg (by simpa using h0)]; exact ⟨_,_,rfl⟩
 ·rw [if_pos (by simpa using h0)]
  unfold z2p
  rw [if_pos ⟨by simp,by omega,by omega⟩]
  exact ⟨_,_,rfl⟩
def chB (z:Nat) (b:Bs):Bs:=if h:b=[]∨z=0 then [] else ((hexF (min z b.length)++[13,10])++b.take (min z b.length))++[13,10]++chB z (b.drop (min z b.length))
termination_by b.length
decreasing_by
 have:b.length≠0:=fun h2=>h (.inl (List.length_eq_zero_iff.1 h2))
 simp only [List.length_drop]; omega
theorem y3m {z:Nat} {b:Bs} (hb:b≠[]) (hz:z≠0):chB z b=((hexF (min z b.length)++[13,10])++b.take (min z b.length))++[13,10]++chB z (b.drop (min z b.length)):=by
 rw [chB,dif_neg (by simp [hb,hz])]
theorem y24 (n:Nat) (h:n≤100000):(hexF n).length≤6:=x0i 5 n (Nat.lt_of_le_of_lt h (by decide))
theorem x1i (z:Nat) (hz:1≤z):∀ (n:Nat) (b x:Bs),b.length≤n→b.length≤100000→x.length+20 * b.length≤900000000 →
  iter (fun (s:Bs×Bs)=>um (z:Int) s.1 s.2) (b,x)=some (x++chB z b++[48,13,10,13,10]):=by
 intro n
 induction n with
 | zero =>
  intro b x h _ hx
  obtain rfl:b=[]:=List.length_eq_zero_iff.1 (by omega)
  simp only [List.length_nil] at hx
  refine wi (body:=fun (s:Bs×Bs)=>um (z:Int) s.1 s.2) (s:=([],x)) ?_
  show um (z:Int) [] x=_
  unfold um z4d
  rw [if_neg (by simp),if_pos (by simp; omega),if_pos (by simp; omega),if_pos (by simp; omega),chB,dif_pos (.inl rfl)]
  simp
 | succ n ih =>
  intro b x h hb hx
  by_cases h0:b=[]
  ·subst h0; exact ih [] x (by simp) (by simp) hx
  have hl:1≤b.length:=by cases b with | nil=>exact absurd rfl h0 | cons _ _=>simp
  have hmin:min (z:Int) (b.length:Int)=((min z b.length:Nat):Int):=by omega
  have hh:=y24 (min z b.length) (by omega)
  have hs1:sub? b 0 ((min z b.length:Nat):Int)=some (b.take (min z b.length)):=Zw b _ (by omega)
  have hs2:sub? b ((min z b.length:Nat):Int) (b.length:Int)=some (b.drop (min z b.length)):=by
   unfold sub?
   rw [if_pos (by omega),List.take_of_length_le (by simp)]; simp
  have hlt:(b.take (min z b.length)).length=min z b.length:=by rw [List.length_take]; omega
  have hst:um (z:Int) b x=some (.inl (b.drop (min z b.length),x++(((hexF (min z b.length)++[13,10])++b.take (min z b.length))++[13,10]))):=by
   unfold um
   rw [if_pos (by simpa using h0),hmin,z9h _ (by omega)]
   simp only [Option.bind_some]
   rw [if_pos (by simp; omega),hs1]
   simp only [Option.bind_some]
   rw [if_pos (by simp only [List.length_append,hlt,List.length_cons,List.length_nil]; omega),if_pos (by simp only [List.length_append,hlt,List.length_cons,List.length_nil]; omega),if_pos (by simp only [List.length_append,hlt,List.length_cons,List.length_nil]; omega),hs2]
   simp only [Option.bind_some]
  rw [uy (body:=fun (s:Bs×Bs)=>um (z:Int) s.1 s.2) (s:=(b,x)) hst,ih _ _ (by simp; omega) (by simp; omega) (by simp only [List.length_append,List.length_drop,hlt,List.length_cons,List.length_nil]; omega),y3m h0 (by omega)]
  simp
theorem x1h (b:Bs) (z:Nat) (hz:1≤z) (hb:b.length≤100000):z0s b (z:Int)=some (chB z b++[48,13,10,13,10]):=by
 unfold z0s
 have:=x1i z hz b.length b [] (Nat.le_refl _) hb (by simp; omega)
 simpa using this
theorem x1l (z:Nat):∀ (n:Nat) (b:Bs),b.length≤n→b.length≤100000→(chB z b).length≤20 * b.length:=by
 intro n
 induction n with
 | zero=>intro b h _; obtain rfl:b=[]:=List.length_eq_zero_iff.1 (by omega); rw [chB,dif_pos (.inl rfl)]; simp
 | succ n ih =>
  intro b h hb
  by_cases h0:b=[]∨z=0
  ·rw [chB,dif_pos h0]; simp
  have h1:b≠[]∧z≠0:=by simpa using h0
  have hl:1≤b.length:=by cases b with | nil=>exact absurd rfl h1.1 | cons _ _=>simp
  have hh:=y24 (min z b.length) (by omega)
  have:=ih (b.drop (min z b.length)) (by simp; omega) (by simp; omega)
  rw [y3m h1.1 h1.2]
  simp only [List.length_append,List.length_take,List.length_drop,List.length_cons,List.length_nil] at this ⊢
  omega
def jx (s:Bs):Bool:=canX s && decide (s.length≤8)
theorem Wa (p:UInt8→Bool):∀ l:Bs,l.dropWhile p=[]↔l.all p=true
 | []=>by simp
 | c::l=>by
  rw [List.dropWhile_cons,List.all_cons]
  cases h:p c
  ·simp
  ·simpa using Wa p l
theorem z9n (p:UInt8→Bool):∀ (l t:Bs) (c:UInt8),l.dropWhile p=c::t→p c=false
 | [],_,_,h=>by cases h
 | d::l,t,c,h=>by
  rw [List.dropWhile_cons] at h
  cases hd:p d
  ·rw [hd] at h
   have:d=c:=by simpa using (List.cons.inj h).1
   rw [← this]; exact hd
  ·rw [hd] at h
   exact z9n p l t c (by simpa using h)
theorem y4o (s:Bs):(Lib.trimS s xdL=[])↔s.all isX=true:=by
 unfold Lib.trimS Lib.trimLeftS Lib.trimRightS
 show (List.dropWhile isX (List.dropWhile isX s.reverse).reverse=[])↔_
 rw [Wa,List.all_reverse]
 constructor
 ·intro h
  cases hd:List.dropWhile isX s.reverse with
  | nil =>
   have:=(Wa isX s.reverse).1 hd
   rwa [List.all_reverse] at this
  | cons c t =>
   have h1:=z9n isX _ _ _ hd
   rw [hd] at h
   simp [h1] at h
 ·intro h
  rw [(Wa isX s.reverse).2 (by rw [List.all_reverse]; exact h)]; rfl
theorem x1m {s:Bs} (h:canX s=true):s≠[]:=by
 intro h0; subst h0; simp [canX] at h
theorem y3q {s:Bs} (h:canX s=true):s.all isX=true:=by
 unfold canX at h
 simp only [Bool.and_eq_true] at h
 exact h.1
theorem x1j (s:Bs) (h:s.length≤1000000):z2z s=some (if jx s then ((hvB s:Int),true) else (0,false)):=by
 have hJ:km s true=some (0,false):=rfl
 unfold z2z
 by_cases h0:s=[]
 ·rw [if_pos (by simpa using h0),hJ]; subst h0; rfl
 rw [if_neg (by simpa using h0)]
 by_cases h8:8 < s.length
 ·rw [if_pos (by simp; omega),hJ,if_neg (by unfold jx; simp; omega)]
 rw [if_neg (by simp; omega)]
 unfold uc
 rw [if_pos ⟨⟨by omega,by decide⟩,by decide⟩]
 simp only [Option.bind_some]
 have ht:=y4o s
 cases hx:s.all isX
 ·rw [if_pos (by
   have:¬ Lib.trimS s xdL=[]:=fun h=>by rw [ht.1 h] at hx; cases hx
   simpa using this),hJ,if_neg (by unfold jx canX; rw [hx]; simp)]
 ·rw [if_neg (by have:=ht.2 hx; simpa using this)]
  cases s with
  | nil=>exact absurd rfl h0
  | cons c t =>
   have hp:=z8b (c::t) h0 hx (by omega)
   have hgood:km (c::t) false=some ((hvB (c::t):Int),true):=by
    unfold km
    rw [if_neg (by simp),hp]; rfl
   simp only [List.getElem?_cons_zero,Option.bind_some]
   have hl8:decide ((c::t).length≤8)=true:=by simp only [decide_eq_true_eq]; omega
   have hg:jx (c::t)=(decide (c::t=[48]) || decide ((c::t).head?≠some 48∧c::t≠[])):=by
    unfold jx canX
    rw [hx,hl8]; simp
   by_cases hc:c=48
   ·subst hc
    rw [if_pos (by decide)]
    cases t with
    | nil=>rw [show decide (([48]:Bs)≠[48])=false from by decide,hgood]; rfl
    | cons d t =>
     rw [show decide ((48::d::t:Bs)≠[48])=true from by simp,hJ,hg]
     simp
   ·have hcn:¬ ((c.toNat:Int)=48):=fun h=>hc (UInt8.toNat_inj.1 (by simp; omega))
    rw [if_neg (by simpa using hcn),hgood,hg]
    simp [hc]
theorem x1u (v x q:Bs) (hq:q.length≤1000000) (hl:(Lib.cut q [13,10]).1.length≤1000000) :
  jy v x q=if (Lib.cut q [13,10]).2.2 && jx (Lib.cut q [13,10]).1 then kw v x (Lib.cut q [13,10]) ((hvB (Lib.cut q [13,10]).1:Int),0) false else some (.inr ([],0,9)):=by
 have hJ:∀ r,kw v x (Lib.cut q [13,10]) r true=some (.inr ([],0,9)):=fun r=>rfl
 unfold jy wo
 rw [if_pos (by omega)]
 simp only [Option.bind_some]
 generalize hr:Lib.cut q [13,10]=r at *
 obtain ⟨w,e,hp⟩:=y7i r.1 hl
 rw [hp]
 simp only [Option.bind_some]
 cases r.2.2
 ·simp only [Bool.not_false,if_true,Bool.false_and,Bool.false_eq_true,if_false]; exact hJ _
 simp only [Bool.not_true,Bool.false_eq_true,if_false,Bool.true_and]
 cases hg:jx r.1
 ·simp only [Bool.false_eq_true,if_false]
  by_cases he:e=0
  ·rw [if_neg (by simpa using he),Qm]
   simp only [Option.bind_some,Bool.not_not]
   cases ho:outP (r.1.length:Int) 1 8
   ·simp only [Bool.false_eq_true,if_false]
    rw [xn _ _ (by omega)]
    simp only [Option.bind_some]
    cases hx:r.1.all fun c=>xdL.contains c
    ·simp only [Bool.not_false,if_true]; exact hJ _
    ·simp only [Bool.not_true,Bool.false_eq_true,if_false]
     have ho':1≤r.1.length∧r.1.length≤8:=by
      rw [xm] at ho
      simp at ho; omega
     have hne:r.1≠[]:=fun h=>by rw [h] at ho'; simp at ho'
     have hpe:=z8b r.1 hne hx ho'.2
     rw [hpe] at hp
     cases hp
     have hb:=z6o 8 r.1 hx ho'.2
     rw [z9h _ (by omega)]
     simp only [Option.bind_some]
     have hnc:decide (r.1≠hexF (hvB r.1))=true:=by
      simp only [decide_eq_true_eq]
      intro h
      have hcan:canX r.1=true:=by
       unfold canX
       rw [show r.1.all isX=true from hx]
       rcases x0l _ _ h with h1 | h1
       ·simp [h1]
       ·simp [h1,hne]
      unfold jx at hg
      rw [hcan] at hg
      simp at hg
      omega
     rw [hnc]
     exact hJ _
   ·simp only [if_true]; exact hJ _
  ·rw [if_pos (by simpa using he)]; exact hJ _
 ·unfold jx at hg
  simp only [Bool.and_eq_true,decide_eq_true_eq] at hg
  have hx:=y3q hg.1
  have hne:=x1m hg.1
  have hpe:=z8b r.1 hne hx hg.2
  rw [hpe] at hp
  cases hp
  have hb:=z6o 8 r.1 hx hg.2
  have hln:1≤r.1.length:=by cases hh:r.1 with | nil=>exact absurd hh hne | cons _ _=>simp
  rw [if_neg (by simp),Qm,xn _ _ (by omega)]
  simp only [Option.bind_some,Bool.not_not,if_true]
  rw [show outP (r.1.length:Int) 1 8=false from by rw [xm]; simp; omega]
  simp only [Bool.false_eq_true,if_false]
  rw [show (r.1.all fun c=>xdL.contains c)=true from hx,z9h _ (by omega),(x0j r.1 hg.1).1]
  simp
theorem z4g (q:Bs) (h:(Lib.cut q [13,10]).2.2=true):(Lib.cut q [13,10]).1.length+2≤q.length∧(Lib.cut q [13,10]).2.1=q.drop ((Lib.cut q [13,10]).1.length+2):=by
 unfold Lib.cut at h ⊢
 split at h
 ·rename_i h0
  rw [if_pos h0]
  have:=Lib.index_room q [13,10] h0
  simp only [List.length_cons,List.length_nil] at this
  have e:(q.take (Lib.index q [13,10]).toNat).length=(Lib.index q [13,10]).toNat:=by rw [List.length_take]; omega
  simp only
  rw [e]
  exact ⟨by omega,rfl⟩
 ·cases h
theorem z64 (q:Bs):(Lib.cut q [13,10]).1.length≤q.length:=by
 unfold Lib.cut
 split
 ·rw [List.length_take]; omega
 ·exact Nat.le_refl _
theorem y4e (s:Bs) (hs:s.length≤1000000):∀ (n:Nat) (q:Bs) (i:Nat) (x:Bs),q.length≤n→s.drop i=q→i+q.length=s.length→x.length≤20000 →
  ∃ r,iter (fun (p:Int×(List Int))=>ju s p.1 p.2) ((i:Int),yu x)=some r∧iter (fun (p:Bs×Bs)=>jy s p.1 p.2) (x,q)=some r∧(r.2.2=0→0≤r.2.1∧r.2.1≤(s.length:Int)):=by
 intro n
 induction n using Nat.strongRecOn with
 | _ n ih =>
  intro q i x hn hq hi hx
  have hsub:sub? s (i:Int) (s.length:Int)=some q:=by
   unfold sub?
   rw [if_pos (by omega)]
   simp only [Int.toNat_natCast]
   rw [hq,List.take_of_length_le (by omega)]
  have hcl:=z64 q
  have hR:=x1u s x q (by omega) (by omega)
  have hC:=x1j (Lib.cut q [13,10]).1 (by omega)
  have hcut:=z4g q
  have hP:ju s (i:Int) (yu x)=if (!(Lib.cut q [13,10]).2.2) || (!jx (Lib.cut q [13,10]).1) then some (.inr ([],0,9)) else
    (if decide (20000 < (wr ((x.length:Int)+(hvB (Lib.cut q [13,10]).1:Int)))) then (some (.inr ([],0,2))) else (if decide (((Lib.cut q [13,10]).2.1.length:Int) < (wr ((hvB (Lib.cut q [13,10]).1:Int)+2))) then (xr (i:Int) (Lib.cut q [13,10]) ((hvB (Lib.cut q [13,10]).1:Int),true) ((x.length:Int),yu x) true) else ((sub? (Lib.cut q [13,10]).2.1 (hvB (Lib.cut q [13,10]).1:Int) (wr ((hvB (Lib.cut q [13,10]).1:Int)+2))).bind fun (l17:Bs)=>xr (i:Int) (Lib.cut q [13,10]) ((hvB (Lib.cut q [13,10]).1:Int),true) ((x.length:Int),yu x) (decide (l17≠[13,10]))))):=by
   unfold ju wo z5x
   rw [hsub]
   simp only [Option.bind_some]
   rw [if_pos (by omega)]
   simp only [Option.bind_some]
   rw [hC]
   simp only [Option.bind_some,z5g]
   cases jx (Lib.cut q [13,10]).1
   ·simp
   ·simp only [if_true]
  generalize hr:Lib.cut q [13,10]=r at *
  cases h2:r.2.2
  ·rw [h2] at hP hR
   simp only [Bool.not_false,Bool.true_or,if_true] at hP
   simp only [Bool.false_and,Bool.false_eq_true,if_false] at hR
   exact ⟨_,wi (body:=fun (p:Int×(List Int))=>ju s p.1 p.2) (s:=((i:Int),yu x)) hP,wi (body:=fun (p:Bs×Bs)=>jy s p.1 p.2) (s:=(x,q)) hR,fun h=>absurd h (by decide)⟩
  cases hg:jx r.1
  ·rw [h2,hg] at hP hR
   simp only [Bool.not_false,Bool.or_true,if_true] at hP
   simp only [Bool.and_false,Bool.false_eq_true,if_false] at hR
   exact ⟨_,wi (body:=fun (p:Int×(List Int))=>ju s p.1 p.2) (s:=((i:Int),yu x)) hP,wi (body:=fun (p:Bs×Bs)=>jy s p.1 p.2) (s:=(x,q)) hR,fun h=>absurd h (by decide)⟩
  obtain ⟨hc1,hc2⟩:=hcut h2
  have hal:r.2.1.length+r.1.length+2=q.length:=by rw [hc2,List.length_drop]; omega
  have hb:hvB r.1 < 16 ^ 8:=by
   unfold jx at hg
   simp only [Bool.and_eq_true,decide_eq_true_eq] at hg
   exact z6o 8 r.1 (y3q hg.1) hg.2
  have h168:(16:Nat) ^ 8=4294967296:=by decide
  rw [h2,hg] at hP hR
  simp only [Bool.not_true,Bool.or_self,Bool.false_eq_true,if_false] at hP
  simp only [Bool.and_self,if_true] at hR
  generalize hN:hvB r.1=N at *
  have w1:wr ((x.length:Int)+(N:Int))=((x.length+N:Nat):Int):=by rw [qz (by omega)]; omega
  have w2:wr ((N:Int)+2)=((N+2:Nat):Int):=by rw [qz (by omega)]; omega
  unfold kw at hR
  rw [w1,w2] at hP
  simp only [w1,w2,Bool.false_eq_true,if_false] at hR
  by_cases hL:20000 < x.length+N
  ·rw [if_pos (by simp; omega)] at hP
   rw [if_pos (by simp; omega)] at hR
   exact ⟨_,wi (body:=fun (p:Int×(List Int))=>ju s p.1 p.2) (s:=((i:Int),yu x)) hP,wi (body:=fun (p:Bs×Bs)=>jy s p.1 p.2) (s:=(x,q)) hR,fun h=>absurd h (by decide)⟩
  rw [if_neg (by simp; omega)] at hP
  rw [if_neg (by simp; omega)] at hR
  by_cases hA:r.2.1.length < N+2
  ·rw [if_pos (by simp; omega)] at hP
   rw [if_pos (by simp; omega)] at hR
   exact ⟨_,wi (body:=fun (p:Int×(List Int))=>ju s p.1 p.2) (s:=((i:Int),yu x)) hP,wi (body:=fun (p:Bs×Bs)=>jy s p.1 p.2) (s:=(x,q)) hR,fun h=>absurd h (by decide)⟩
  rw [if_neg (by simp; omega)] at hP
  rw [if_neg (by simp; omega)] at hR
  have hs3:sub? r.2.1 (N:Int) ((N+2:Nat):Int)=some ((r.2.1.drop N).take 2):=by
   unfold sub?
   rw [if_pos (by omega)]
   simp only [Int.toNat_natCast]
   rw [show N+2 - N=2 by omega]
  rw [hs3] at hP hR
  simp only [Option.bind_some] at hP hR
  cases hE:decide ((r.2.1.drop N).take 2≠[13,10])
  ·rw [hE] at hP hR
   unfold xr at hP
   unfold z1f at hR
   have hs4:sub? r.2.1 0 (N:Int)=some (r.2.1.take N):=Zw _ _ (by omega)
   have hs5:sub? r.2.1 ((N+2:Nat):Int) (r.2.1.length:Int)=some (r.2.1.drop (N+2)):=by
    unfold sub?
    rw [if_pos (by omega)]
    simp only [Int.toNat_natCast]
    rw [List.take_of_length_le (by simp)]
   have w3:wr ((i:Int)+wr (wr (wr ((r.1.length:Int)+2)+(N:Int))+2))=((i+(r.1.length+2+N+2):Nat):Int):=by
    rw [qz (n:=(r.1.length:Int)+2) (by omega),qz (n:=(r.1.length:Int)+2+(N:Int)) (by omega),qz (n:=(r.1.length:Int)+2+(N:Int)+2) (by omega),qz (by omega)]
    omega
   have w4:wr ((s.length:Int) - ((r.2.1.drop (N+2)).length:Int))=((i+(r.1.length+2+N+2):Nat):Int):=by
    rw [List.length_drop,qz (by omega)]
    omega
   have hlt:(r.2.1.take N).length=N:=by rw [List.length_take]; omega
   simp only [Bool.false_eq_true,if_false,w3,x1n,if_true,y48,hs4,Option.bind_some] at hP
   simp only [Bool.false_eq_true,if_false,hs4,Option.bind_some,w2,hs5,w4] at hR
   rw [if_pos (by omega)] at hR
   by_cases h0:N=0
   ·subst h0
    rw [if_pos (by simp)] at hP
    rw [if_pos (by simp)] at hR
    refine ⟨_,wi (body:=fun (p:Int×(List Int))=>ju s p.1 p.2) (s:=((i:Int),yu x)) hP,?_,fun _=>⟨by simp only; omega,by simp only; omega⟩⟩
    have:=wi (body:=fun (p:Bs×Bs)=>jy s p.1 p.2) (s:=(x,q)) hR
    simpa using this
   ·rw [if_neg (by simp; omega)] at hP
    rw [if_neg (by simp; omega)] at hR
    unfold z2o at hP
    rw [if_pos (by rw [z5g]; omega)] at hP
    simp only [Option.bind_some,← y7p] at hP
    have hdr:s.drop (i+(r.1.length+2+N+2))=r.2.1.drop (N+2):=by
     rw [hc2,← hq,List.drop_drop,List.drop_drop]
     congr 1 <;> omega
    obtain ⟨z,hz1,hz2,hz3⟩:=ih (r.2.1.drop (N+2)).length (by rw [List.length_drop]; omega) (r.2.1.drop (N+2)) (i+(r.1.length+2+N+2)) (x++r.2.1.take N) (Nat.le_refl _) hdr (by rw [List.length_drop]; omega) (by rw [List.length_append,hlt]; omega)
    refine ⟨z,?_,?_,hz3⟩
    ·rw [uy (body:=fun (p:Int×(List Int))=>ju s p.1 p.2) (s:=((i:Int),yu x)) hP]; exact hz1
    ·rw [uy (body:=fun (p:Bs×Bs)=>jy s p.1 p.2) (s:=(x,q)) hR]; exact hz2
  ·rw [hE] at hP hR
   exact ⟨_,wi (body:=fun (p:Int×(List Int))=>ju s p.1 p.2) (s:=((i:Int),yu x)) hP,wi (body:=fun (p:Bs×Bs)=>jy s p.1 p.2) (s:=(x,q)) hR,fun h=>absurd h (by decide)⟩
theorem y4f (s:Bs) (hs:s.length≤1000000):∃ r,z24 s=some r∧z3p s=some r∧(r.2.2=0→0≤r.2.1∧r.2.1≤(s.length:Int)):=by
 have:=y4e s hs s.length s 0 [] (Nat.le_refl _) (by simp) (by simp) (by simp)
 unfold z24 z3p
 simpa [yu] using this
abbrev lo (s:Bs):Bs:=Lib.toLowerA s
theorem y14 (x:UInt8):(Lib.lowerB x).toNat=if 65≤x.toNat∧x.toNat≤90 then x.toNat+32 else x.toNat:=by
 have:=jq (fun x=>decide ((Lib.lowerB x).toNat=if 65≤x.toNat∧x.toNat≤90 then x.toNat+32 else x.toNat)) (by decide +kernel) x
 exact of_decide_eq_true this
theorem x0s (x y:UInt8):Lib.foldEq x y=decide (Lib.lowerB x=Lib.lowerB y):=by
 unfold Lib.foldEq
 refine decide_eq_decide.2 ?_
 rw [← UInt8.toNat_inj,y14,y14]
 split <;> split <;> omega
theorem y3j:∀ a b:Bs,Lib.equalFold a b=decide (lo a=lo b)
 | [],[]=>rfl
 | [],y::t=>by simp [Lib.equalFold,lo,Lib.toLowerA]
 | x::s,[]=>by simp [Lib.equalFold,lo,Lib.toLowerA]
 | x::s,y::t=>by
  have ih:=y3j s t
  show (Lib.foldEq x y && Lib.equalFold s t)=_
  rw [x0s,ih]
  unfold lo Lib.toLowerA
  simp only [List.map_cons,List.cons.injEq]
  by_cases h1:Lib.lowerB x=Lib.lowerB y <;> simp [h1]
theorem y4s {s:Bs} (h:tokB s=true):ascB s=true:=by
 unfold tokB at h
 simp only [Bool.and_eq_true] at h
 unfold ascB
 refine List.all_eq_true.2 fun c hc => ?_
 have h1:=List.all_eq_true.1 h.1 c hc
 have h2:=jq (fun c => !tokL.contains c || decide (c.toNat < 128)) (by decide +kernel) c
 rw [h1] at h2
 simpa using h2
theorem y0k {s:Bs} (h:tokB s=true):s.length≤100:=by
 unfold tokB at h
 simp only [Bool.and_eq_true,decide_eq_true_eq] at h
 omega
def nmB (n:Bs) (h:zk):Bool:=decide (lo h.Name=lo n)
def nmOK (h:zk):Prop:=ascB h.Name=true∧h.Name.length≤100000
theorem z5i (h:zk) (n:Bs) (h1:nmOK h) (h2:ascB n=true):Zb h n=some (nmB n h):=by
 unfold Zb z5v
 rw [if_pos ⟨by have:=h1.2; omega,h1.1,h2⟩]
 simp only [Option.bind_some,y3j]
 rfl
theorem z9x (a b:Bs) (ha:ascB a=true∧a.length≤100000) (hb:ascB b=true∧b.length≤100000):ko a b=some (decide (lo a=lo b)):=by
 unfold ko Yk
 rw [if_pos ⟨by omega,ha.1⟩]
 simp only [Option.bind_some]
 rw [if_pos ⟨by omega,hb.1⟩]
 rfl
theorem y39 (l:List zk) (n:Bs) (hl:l.length≤1000000) (h:∀ x,x∈l→nmOK x) (hn:ascB n=true):z0h l n=some (l.filter fun x => !nmB n x):=by
 unfold z0h kn
 rw [if_pos (by omega)]
 simp only [Option.bind_some]
 have e:xz l (fun (a0:zk)=>Ym a0 n)=some (l.filter fun x => !nmB n x):=
  z9g (zk.mk [] []) l (p:=fun (a0:zk)=>Ym a0 n) (nmB n) (by omega) fun x hx=>by
   unfold Ym
   rw [z5i x n (h x hx) hn]; rfl
 rw [e]; rfl
theorem z60 {s:Bs} (h:fldB s=true):s.length≤2000:=by
 unfold fldB at h
 simp only [Bool.and_eq_true,decide_eq_true_eq] at h
 omega
abbrev ddL:Bs:=[48,49,50,51,52,53,54,55,56,57]
def isD (c:UInt8):Bool:=ddL.contains c
def dv (c:UInt8):Nat:=c.toNat - 48
def dgD (n:Nat):UInt8:=UInt8.ofNat (48+n)
theorem Wc (u:Nat):Lib.decDigits u=if u < 10 then [dgD u] else Lib.decDigits (u / 10)++[dgD (u % 10)]:=by
 rw [Lib.decDigits]; rfl
theorem z1j (c:UInt8) (h:isD c=true):dgD (dv c)=c∧dv c < 10∧(dv c=0→c=48)∧48≤c.toNat∧c.toNat≤57:=by
 have:=jq (fun c => !isD c || decide (dgD (dv c)=c∧dv c < 10∧(dv c=0→c=48)∧48≤c.toNat∧c.toNat≤57)) (by decide +kernel) c
 rw [h] at this
 exact of_decide_eq_true (by simpa only [Bool.not_true,Bool.false_or] using this)
theorem x07 (n:Nat) (h:n < 10):isD (dgD n)=true∧dv (dgD n)=n∧(dgD n=48→n=0):=by
 have:∀ n,n < 10→isD (dgD n)=true∧dv (dgD n)=n∧(dgD n=48→n=0):=by decide +kernel
 exact this n h
def nvB (l:Bs):Nat:=l.foldl (fun a c=>a * 10+dv c) 0
theorem y1t (l:Bs) (c:UInt8):nvB (l++[c])=nvB l * 10+dv c:=by simp [nvB,List.foldl_append]
theorem y3k:∀ u:Nat,Lib.decDigits u=[48]∨∃ c t,Lib.decDigits u=c::t∧c≠48:=by
 intro u
 induction u using Nat.strongRecOn with
 | _ u ih =>
  rw [Wc]
  split
  ·rename_i h
   by_cases h0:dgD u=48
   ·exact .inl (by rw [h0])
   ·exact .inr ⟨_,_,rfl,h0⟩
  ·rename_i h
   rcases ih (u / 10) (by omega) with h1 | ⟨c,t,h1,h2⟩
   ·exfalso
    have h3:u / 10 < 10∧dgD (u / 10)=48:=by
     rw [Wc] at h1
     split at h1
     ·rename_i h4; exact ⟨h4,by simpa using h1⟩
     ·have:=congrArg List.length h1
      simp only [List.length_append,List.length_singleton] at this
      have h5:Lib.decDigits (u / 10 / 10)=[]:=List.length_eq_zero_iff.1 (by omega)
      rw [Wc] at h5
      split at h5 <;> simp at h5
    have:=(x07 _ h3.1).2.2 h3.2
    omega
   ·exact .inr ⟨c,t++[dgD (u % 10)],by rw [h1]; rfl,h2⟩
theorem x08:∀ (k u:Nat),u < 10 ^ (k+1)→(Lib.decDigits u).length≤k+1:=by
 intro k
 induction k with
 | zero =>
  intro u h
  rw [Wc,if_pos (by simpa using h)]; simp
 | succ k ih =>
  intro u h
  rw [Wc]
  split
  ·simp
  ·have:u / 10 < 10 ^ (k+1):=by
    rw [Nat.div_lt_iff_lt_mul (by decide)]
    rw [Nat.pow_succ] at h; exact h
   have:=ih _ this
   simp; omega
def canD (s:Bs):Bool:=s.all isD && (decide (s=[48]) || decide (s.head?≠some 48∧s≠[]))
theorem z63 (s:Bs):canD s=true→Lib.decDigits (nvB s)=s∧(1≤nvB s∨s=[48]):=by
 refine z19 (P:=fun s=>canD s=true→Lib.decDigits (nvB s)=s∧(1≤nvB s∨s=[48])) (by decide) (fun p d ih h => ?_) s
 unfold canD at h
 simp only [Bool.and_eq_true,Bool.or_eq_true,decide_eq_true_eq,List.all_append,List.all_cons,List.all_nil,Bool.and_true] at h
 obtain ⟨⟨hp,hd⟩,hh⟩:=h
 obtain ⟨d1,d2,d3,_⟩:=z1j d hd
 cases p with
 | nil =>
  have e:nvB ([]++[d])=dv d:=by simp [nvB]
  rw [e,Wc,if_pos d2,d1]
  refine ⟨rfl,?_⟩
  by_cases h0:dv d=0
  ·exact .inr (by rw [d3 h0]; rfl)
  ·exact .inl (by omega)
 | cons c t =>
  have hc:c≠48:=by
   rcases hh with h1 | ⟨h1,_⟩
   ·have:=congrArg List.length h1; simp at this
   ·intro h2; rw [h2] at h1; exact h1 rfl
  have hcan:canD (c::t)=true:=by
   unfold canD
   rw [hp]
   simp [hc]
  obtain ⟨i1,i2⟩:=ih hcan
  have i3:1≤nvB (c::t):=by
   rcases i2 with h | h
   ·exact h
   ·exact absurd (List.cons.inj h).1 hc
  rw [y1t]
  have e1:(nvB (c::t) * 10+dv d) / 10=nvB (c::t):=by omega
  have e2:(nvB (c::t) * 10+dv d) % 10=dv d:=by omega
  rw [Wc,if_neg (by omega),e1,e2,i1,d1]
  exact ⟨rfl,.inl (by omega)⟩
theorem z5f:∀ (k:Nat) (s:Bs),s.all isD=true→s.length≤k→nvB s < 10 ^ k:=by
 intro k
 induction k with
 | zero=>intro s _ h; obtain rfl:s=[]:=List.length_eq_zero_iff.1 (by omega); decide
 | succ k ih =>
  intro s
  refine z19 (P:=fun s=>s.all isD=true→s.length≤k+1→nvB s < 10 ^ (k+1)) (fun _ _=>Nat.pow_pos (by decide)) (fun p d _ h1 h2 => ?_) s
  simp only [List.all_append,List.all_cons,List.all_nil,Bool.and_true,Bool.and_eq_true] at h1
  have h3:=ih p h1.1 (by simp at h2; omega)
  have h4:=(z1j d h1.2).2.1
  rw [y1t,Nat.pow_succ]
  omega
theorem atL (E:Int→Option (Int×Int)):∀ (s:Bs) (k j v:Nat),s.all isD=true→j+s.length≤18→v < 10 ^ j →
  forL (fun (k:Nat) (x:Int) (q:Int)=>z06 k x q) E k (yu s) (v:Int)=E ((s.foldl (fun a c=>a * 10+dv c) v:Nat):Int)
 | [],k,j,v,_,_,_=>rfl
 | c::s,k,j,v,h,hj,hv=>by
  simp only [List.all_cons,Bool.and_eq_true] at h
  simp only [List.length_cons] at hj
  obtain ⟨_,hd,_,hc1,hc2⟩:=z1j c h.1
  have h9:10 ^ j≤10 ^ 17:=Nat.pow_le_pow_right (by decide) (by omega)
  have e17:(10:Nat) ^ 17=100000000000000000:=by decide
  have ew:IntKind.wrap .u8 ((c.toNat:Int) - 48)=(dv c:Int):=by
   have:=jq (fun c => !isD c || decide (IntKind.wrap .u8 ((c.toNat:Int) - 48)=(dv c:Int))) (by decide +kernel) c
   rw [h.1] at this
   exact of_decide_eq_true (by simpa only [Bool.not_true,Bool.false_or] using this)
  have ei:IntKind.wrap .i64 (dv c:Int)=(dv c:Int):=qz (by omega)
  have e1:wr ((v:Int) * 10)=(v:Int) * 10:=qz (by omega)
  have e2:wr ((v:Int) * 10+(dv c:Int))=((v * 10+dv c:Nat):Int):=by rw [qz (by omega)]; omega
  show (z06 k (c.toNat:Int) (v:Int)).bind _=_
  unfold z06
  rw [ew,if_neg (by simp; omega),ei,e1,e2]
  simp only [Option.bind_some,after]
  exact (atL E s (k+1) (j+1) (v * 10+dv c) h.2 (by omega) (by rw [Nat.pow_succ]; omega)).trans rfl
theorem atJ (s t:Bs) (ht:t.all isD=true) (hl:t.length≤17):Qk s t=Ql s (nvB t:Int):=by
 unfold Qk
 rw [if_pos (by rw [z5g]; omega)]
 exact atL (fun q=>Ql s q) t 0 0 0 ht (by omega) (by decide)
theorem d43 (c:UInt8) (h:isD c=true):(c.toNat:Int)≠45∧(c.toNat:Int)≠43:=by
 have:=(z1j c h).2.2.2
 omega
theorem y3v (t:Bs) (ht:t.all isD=true) (hne:t≠[]) (hl:t.length≤17):jv t=some ((nvB t:Int),0):=by
 have hi:Ys t=some ((nvB t:Int),0):=by
  cases t with
  | nil=>exact absurd rfl hne
  | cons c r =>
   have hc:isD c=true:=by simp only [List.all_cons,Bool.and_eq_true] at ht; exact ht.1
   have h4:=d43 c hc
   unfold Ys
   rw [if_pos (by simp at hl ⊢; omega)]
   simp only [List.getElem?_cons_zero,Option.bind_some]
   rw [if_neg (by simpa using h4.1)]
   unfold Qj
   rw [if_neg (by simpa using h4.2),atJ _ _ ht hl]
   unfold Ql Qi
   simp only [List.getElem?_cons_zero,Option.bind_some]
   rw [if_neg (by simpa using h4.1)]
 unfold jv
 rw [hi]; rfl
theorem x1y (t:Bs) (ht:t.all isD=true) (hne:t≠[]) (hl:t.length≤17):jv (45::t)=some (-(nvB t:Int),0):=by
 have hln:1≤t.length:=by cases t with | nil=>exact absurd rfl hne | cons _ _=>simp
 have hv:=z5f 17 t ht hl
 have e17:(10:Nat) ^ 17=100000000000000000:=by decide
 have hi:Ys (45::t)=some (-(nvB t:Int),0):=by
  have hsub:sub? ((45:UInt8)::t) 1 (((45:UInt8)::t).length:Int)=some t:=by
   unfold sub?
   rw [if_pos (by simp only [List.length_cons]; omega),List.take_of_length_le (by simp)]; rfl
  unfold Ys
  rw [if_pos (by simp at hl ⊢; omega)]
  simp only [List.getElem?_cons_zero,Option.bind_some]
  rw [if_pos (by decide)]
  unfold Qj
  rw [if_pos rfl,hsub]
  simp only [Option.bind_some]
  rw [if_neg (by simp; omega),atJ _ _ ht hl]
  unfold Ql Qi
  simp only [List.getElem?_cons_zero,Option.bind_some]
  rw [if_pos (by decide),if_pos (by omega)]
 unfold jv
 rw [hi]; rfl
def tlB (s:Bs):Bs:=Lib.trimPrefix s [45]
def valB (s:Bs):Int:=if s.head?=some 45 then -(nvB (tlB s):Int) else (nvB s:Int)
def okN (m:Nat) (s:Bs):Bool:=(tlB s).all isD && (decide (tlB s≠[]∧(tlB s).length≤m) && decide ((tlB s).head?≠some 48∨s=[48]))
theorem z12 (c:UInt8) (r:Bs):tlB (c::r)=if c=45 then r else c::r:=by
 unfold tlB Lib.trimPrefix Lib.hasPrefix
 by_cases h:c=45
 ·subst h; simp [List.isPrefixOf]
 ·have:((45:UInt8) == c)=false:=by simpa using fun e:(45:UInt8)=c=>h e.symm
  simp [List.isPrefixOf,this,h]
theorem z4m (r:Bs):valB (45::r)=-(nvB r:Int):=by simp [valB,z12]
theorem z1p (c:UInt8) (r:Bs) (h:c≠45):valB (c::r)=(nvB (c::r):Int):=by simp [valB,h]
theorem y3u (s:Bs) (ht:(tlB s).all isD=true) (hne:tlB s≠[]) (hl:(tlB s).length≤17):jv s=some (valB s,0):=by
 cases s with
 | nil=>exact absurd rfl hne
 | cons c r =>
  rw [z12] at ht hne hl
  by_cases h:c=45
  ·subst h
   rw [if_pos rfl] at ht hne hl
   rw [z4m]
   exact x1y r ht hne hl
  ·rw [if_neg h] at ht hne hl
   rw [z1p c r h]
   exact y3v (c::r) ht hne hl
theorem y98 (s:Bs) (m:Nat) (ht:(tlB s).all isD=true) (hne:tlB s≠[]) (hl:(tlB s).length≤m) (hm:m≤17):∃ r,xy (valB s)=some r∧decide (r=s)=okN m s:=by
 have hv:=z5f 17 (tlB s) ht (by omega)
 have e17:(10:Nat) ^ 17=100000000000000000:=by decide
 have hok:okN m s=decide ((tlB s).head?≠some 48∨s=[48]):=by
  unfold okN
  rw [ht,show decide (tlB s≠[]∧(tlB s).length≤m)=true from by simpa using ⟨hne,hl⟩]
  simp
 cases s with
 | nil=>exact absurd rfl hne
 | cons c r =>
  rw [z12] at ht hne hl hv hok
  unfold xy
  by_cases h:c=45
  ·subst h
   rw [if_pos rfl] at ht hne hl hv hok
   rw [z4m,if_pos (by omega)]
   refine ⟨_,rfl,?_⟩
   rw [hok]
   have hok':decide (r.head?≠some 48∨(45:UInt8)::r=[48])=decide (r.head?≠some 48):=by simp
   rw [hok']
   have hcan:(r.head?≠some 48)→canD r=true:=fun hh=>by
    unfold canD
    rw [ht]
    simp [hh,hne]
   unfold Lib.itoa
   by_cases h0:nvB r=0
   ·rw [if_neg (by omega),h0]
    have h1:r.head?=some 48:=Classical.byContradiction fun hh=>by
     rcases (z63 r (hcan hh)).2 with h2 | h2
     ·omega
     ·rw [h2] at hh; exact hh rfl
    rw [h1]
    have:Lib.decDigits (-((0:Nat):Int)).toNat=[48]:=by decide +kernel
    rw [this]
    simp
   ·rw [if_pos (by omega)]
    have e1:(-(nvB r:Int)).natAbs=nvB r:=by omega
    rw [e1]
    by_cases hh:r.head?=some 48
    ·rw [hh]
     have:¬ (45::Lib.decDigits (nvB r)=45::r):=fun e=>by
      have e2:=(List.cons.inj e).2
      rcases y3k (nvB r) with h3 | ⟨d,t,h3,h4⟩
      ·rw [e2] at h3
       rw [h3] at h0
       exact h0 (by decide)
      ·rw [e2] at h3
       rw [h3] at hh
       exact h4 (by simpa using hh)
     simpa using this
    ·rw [(z63 r (hcan hh)).1]
     simp [hh]
  ·rw [if_neg h] at ht hne hl hv hok
   have hcan:((c::r).head?≠some 48∨c::r=[48])→canD (c::r)=true:=fun hh=>by
    unfold canD
    rw [ht]
    rcases hh with hh | hh
    ·simp only [Bool.true_and,Bool.or_eq_true,decide_eq_true_eq]
     exact .inr ⟨hh,hne⟩
    ·simp only [Bool.true_and,Bool.or_eq_true,decide_eq_true_eq]
     exact .inl hh
   rw [z1p c r h,if_pos (by omega)]
   refine ⟨_,rfl,?_⟩
   rw [hok]
   unfold Lib.itoa
   rw [if_neg (by omega),Int.toNat_natCast]
   refine decide_eq_decide.2 ⟨fun e => ?_,fun hh=>(z63 _ (hcan hh)).1⟩
   rcases y3k (nvB (c::r)) with h3 | ⟨d,t,h3,h4⟩
   ·exact .inr (e.symm.trans h3)
   ·refine .inl ?_
    rw [e.symm.trans h3]
    simpa using h4
theorem y3f {α ρ:Type} {body:Nat→α→Unit→Option (Unit ⊕ ρ)} {fin:Unit→Option ρ} {p:α→Bool} {r0:ρ} (h:∀ j x,body j x ()=if p x then some (.inl ()) else some (.inr r0)):∀ (l:List α) (k:Nat),l.all p=false→forL body fin k l ()=some r0
 | [],k,hl=>by cases hl
 | x::l,k,hl=>by
  show (body k x ()).bind _=_
  rw [h k x]
  cases hp:p x
  ·simp [after]
  ·rw [List.all_cons,hp,Bool.true_and] at hl
   simp only [if_true,Option.bind_some,after]
   exact y3f h l (k+1) hl
theorem y0l (s:Bs):(tlB s).length≤s.length:=by
 unfold tlB Lib.trimPrefix
 split
 ·simp
 ·exact Nat.le_refl _
theorem y16 (s:Bs) (m:Nat) (hm:m≤17) (hs:s.length≤1000000):Yr s (m:Int)=some (if okN m s then valB s else 0,okN m s):=by
 have hJ:jl s (tlB s) true=some (0,false):=rfl
 have htl:=y0l s
 have hb:∀ (j:Nat) (x:UInt8),z3x j x=if isD x then some (.inl ()) else some (.inr (0,false)):=fun j x=>by
  have:=jq (fun x=>decide (z3x 0 x=if isD x then some (.inl ()) else some (.inr (0,false)))) (by decide +kernel) x
  exact of_decide_eq_true this
 unfold Yr z0c
 simp only [Option.bind_some]
 show (if decide (tlB s=[]) then jl s (tlB s) true else if decide ((m:Int) < ((tlB s).length:Int)) then jl s (tlB s) true else ((tlB s)[0]?).bind fun x9=>if decide ((x9.toNat:Int)=48) then jl s (tlB s) (decide (s≠[48])) else jl s (tlB s) false)=_
 by_cases h0:tlB s=[]
 ·rw [if_pos (by simpa using h0),hJ]
  have:okN m s=false:=by unfold okN; rw [h0]; simp
  rw [this]; rfl
 rw [if_neg (by simpa using h0)]
 by_cases hl:m < (tlB s).length
 ·rw [if_pos (by simp; omega),hJ]
  have:okN m s=false:=by
   unfold okN
   rw [show decide (tlB s≠[]∧(tlB s).length≤m)=false from by simp; intro; omega]
   simp
  rw [this]; rfl
 rw [if_neg (by simp; omega)]
 have hlm:decide (tlB s≠[]∧(tlB s).length≤m)=true:=by simp only [decide_eq_true_eq]; exact ⟨h0,by omega⟩
 have hall:jl s (tlB s) false=some (if (tlB s).all isD then valB s else 0,(tlB s).all isD):=by
  unfold jl
  rw [if_neg (by simp),if_pos (by omega)]
  cases hd:(tlB s).all isD
  ·exact y3f (p:=isD) hb (tlB s) 0 hd
  ·have hf:z0w s=some (valB s,true):=by
    unfold z0w
    rw [y3u s hd h0 (by omega)]; rfl
   rw [xb (fin:=fun (s_1:Unit)=>z0w s) (e:=(valB s,true)) (p:=fun _ c=>isD c) (r0:=(0,false)) hf (tlB s) 0 (fun j x _ _=>hb j x),Wd,hd]
   rfl
 cases hc:tlB s with
 | nil=>exact absurd hc h0
 | cons c r =>
  rw [hc] at hall hlm h0
  simp only [List.getElem?_cons_zero,Option.bind_some]
  have hok:okN m s=((c::r).all isD && decide ((c::r).head?≠some 48∨s=[48])):=by
   unfold okN
   rw [hc,hlm]; simp
  by_cases h48:c=48
  ·rw [if_pos (by rw [h48]; decide)]
   by_cases hs48:s=[48]
   ·rw [show decide (s≠[48])=false from by simpa using hs48,hall,hok]
    simp [hs48]
   ·rw [show decide (s≠[48])=true from by simpa using hs48]
    have:okN m s=false:=by rw [hok]; simp [h48,hs48]
    rw [this]; rfl
  ·have hcn:¬ ((c.toNat:Int)=48):=fun h=>h48 (UInt8.toNat_inj.1 (by simp; omega))
   rw [if_neg (by simpa using hcn),hall,hok]
   simp [h48]
theorem y4c (s:Bs) (m:Nat) (hm:m≤17) (ht:(tlB s).all isD=true) (hl:(tlB s).length≤m):-100000000000000000 < valB s∧valB s < 100000000000000000:=by
 have e17:(10:Nat) ^ 17=100000000000000000:=by decide
 cases s with
 | nil=>simp [valB,nvB]
 | cons c r =>
  rw [z12] at ht hl
  by_cases h:c=45
  ·subst h
   rw [if_pos rfl] at ht hl
   rw [z4m]
   have:=z5f 17 r ht (by omega)
   omega
  ·rw [if_neg h] at ht hl
   rw [z1p c r h]
   have:=z5f 17 (c::r) ht (by omega)
   omega
theorem y1f (s:Bs) (m:Nat) (hm:m≤17) (hs:s.length≤1000000):∃ w,Zi s (m:Int)=some (w,okN m s)∧(okN m s=true→w=valB s)∧(-100000000000000000 < w∧w < 100000000000000000):=by
 have hJ:kv s true=some (0,false):=rfl
 have htl:=y0l s
 unfold Zi z0c
 simp only [Option.bind_some]
 show ∃ w,(if decide (tlB s=[]) then kv s true else if decide ((m:Int) < ((tlB s).length:Int)) then kv s true else (vn (tlB s) [48,49,50,51,52,53,54,55,56,57]).bind fun r9=>kv s (!r9))=some (w,okN m s)∧_
 by_cases h0:tlB s=[]
 ·have:okN m s=false:=by unfold okN; rw [h0]; simp
  rw [if_pos (by simpa using h0),hJ,this]
  exact ⟨0,rfl,(fun h=>by cases h),by decide,by decide⟩
 rw [if_neg (by simpa using h0)]
 by_cases hl:m < (tlB s).length
 ·have:okN m s=false:=by
   unfold okN
   rw [show decide (tlB s≠[]∧(tlB s).length≤m)=false from by simp; intro; omega]
   simp
  rw [if_pos (by simp; omega),hJ,this]
  exact ⟨0,rfl,(fun h=>by cases h),by decide,by decide⟩
 rw [if_neg (by simp; omega),xn _ _ (by omega)]
 simp only [Option.bind_some]
 cases hd:(tlB s).all fun c=>([48,49,50,51,52,53,54,55,56,57]:Bs).contains c
 ·have:okN m s=false:=by
   unfold okN
   rw [show (tlB s).all isD=false from hd]; simp
  rw [this,Bool.not_false,hJ]
  exact ⟨0,rfl,(fun h=>by cases h),by decide,by decide⟩
 ·have hd':(tlB s).all isD=true:=hd
  obtain ⟨r,h1,h2⟩:=y98 s m hd' h0 (by omega) hm
  rw [Bool.not_true]
  unfold kv z1b
  rw [if_neg (by simp),y3u s hd' h0 (by omega)]
  simp only [Option.bind_some]
  rw [if_pos (by simp),h1]
  simp only [Option.bind_some]
  rw [h2]
  exact ⟨valB s,rfl,fun _=>rfl,y4c s m hm hd' (by omega)⟩
theorem z65 (s:Bs) (c:UInt8):(Lib.cut s [c]).1.length≤s.length∧(Lib.cut s [c]).2.1.length≤s.length∧(∀ x,x∈(Lib.cut s [c]).1→x∈s)∧∀ x,x∈(Lib.cut s [c]).2.1→x∈s:=by
 unfold Lib.cut
 split
 ·exact ⟨by simp; omega,by simp,fun x hx=>List.mem_of_mem_take hx,fun x hx=>List.mem_of_mem_drop hx⟩
 ·exact ⟨Nat.le_refl _,by simp,fun x hx=>hx,fun x hx=>by cases hx⟩
theorem x2b {s t:Bs} (h:ascB s=true) (hm:∀ c,c∈t→c∈s):ascB t=true:=by
 unfold ascB at h ⊢
 refine List.all_eq_true.2 fun c hc=>List.all_eq_true.1 h c (hm c hc)
def labC (c:UInt8):Bool:=decide (97≤c.toNat∧c.toNat≤122) || (decide (65≤c.toNat∧c.toNat≤90) || (decide (48≤c.toNat∧c.toNat≤57) || decide (c.toNat=45)))
def labE (l:Bs):Bool:=decide (l≠[]) && (decide ((l.length:Int)≤63) && (decide (l.head?≠some 45) && decide (l.getLast?≠some 45)))
def labB (l:Bs):Bool:=l.all labC && labE l
theorem y73 (l:Bs) (h:l.length≤1000000000):z2h l=some (labE l):=by
 unfold z2h xp labE
 cases l with
 | nil=>rfl
 | cons c r =>
  rw [if_pos (by simp)]
  by_cases h63:((c::r).length:Int)≤63
  ·rw [if_pos (by simpa using h63)]
   simp only [List.getElem?_cons_zero,Option.bind_some]
   have hw:wr (((c::r).length:Int) - 1)=(r.length:Int):=by
    simp only [List.length_cons] at h ⊢
    rw [qz (by omega)]; omega
   have hat:at? (c::r) (r.length:Int)=some ((c::r).getLast (by simp)):=by
    rw [x1z,List.getLast_eq_getElem]
    simp
   rw [hw,hat]
   simp only [Option.bind_some]
   have e1:decide ((c.toNat:Int)≠45)=decide ((c::r).head?≠some 45):=by
    refine decide_eq_decide.2 ⟨fun h1 h2=>h1 ?_,fun h1 h2=>h1 ?_⟩
    ·have:c=45:=by simpa using h2
     rw [this]; rfl
    ·have:c=45:=UInt8.toNat_inj.1 (by simp; omega)
     rw [this]; rfl
   have e2:decide ((((c::r).getLast (by simp)).toNat:Int)≠45)=decide ((c::r).getLast?≠some 45):=by
    rw [List.getLast?_eq_some_getLast (by simp)]
    refine decide_eq_decide.2 ⟨fun h1 h2=>h1 ?_,fun h1 h2=>h1 ?_⟩
    ·have:(c::r).getLast (by simp)=45:=Option.some.inj h2
     rw [this]; rfl
    ·have:(c::r).getLast (by simp)=45:=UInt8.toNat_inj.1 (by simp; omega)
     rw [this]
   rw [e1,e2]
   have e3:decide (((c::r).length:Int)≤63)=true:=by simpa using h63
   rw [e3]
   have e4:decide (c::r≠[])=true:=by simp
   rw [e4]
   cases decide ((c::r).head?≠some 45) <;> simp
  ·rw [if_neg (by simpa using h63)]
   have e3:decide (((c::r).length:Int)≤63)=false:=by simpa using h63
   rw [e3]
   simp
theorem x0a (l:Bs) (h:l.length≤1000000000):z2x l=some (labB l):=by
 have hb:∀ (j:Nat) (x:UInt8),z2g j x=if labC x then some (.inl ()) else some (.inr false):=fun j x=>by
  have:=jq (fun x=>decide (z2g 0 x=if labC x then some (.inl ()) else some (.inr false))) (by decide +kernel) x
  exact of_decide_eq_true this
 unfold z2x
 rw [if_pos h,xb (p:=fun _ c=>labC c) (r0:=false) (e:=labE l) (y73 l h) l 0 (fun j x _ _=>hb j x),Wd]
 unfold labB
 cases l.all labC <;> simp
theorem trLR (x:Bs) (hx:x≠[]):decide (trL 45 (trR 45 x)≠x) = !(decide (x.head?≠some 45) && decide (x.getLast?≠some 45)):=by
 obtain ⟨l,b,rfl⟩:∃ l b,x=l++[b]:=⟨x.dropLast,x.getLast hx,(List.dropLast_concat_getLast hx).symm⟩
 have hl:(l++[b]).getLast?=some b:=by simp
 rw [y0j,hl]
 by_cases hb:b=45
 ·rw [if_pos hb]
  have h1:=z41 45 l
  have h2:(trL 45 (trR 45 l)).length≤(trR 45 l).length:=(List.dropWhile_sublist _).length_le
  have h3:trL 45 (trR 45 l)≠l++[b]:=fun h=>by
   have:=congrArg List.length h
   simp at this; omega
  rw [decide_eq_true h3]
  simp [hb]
 ·rw [if_neg hb]
  cases l with
  | nil =>
   have:trL 45 ([]++[b])=[b]:=by
    unfold trL
    rw [List.nil_append,List.dropWhile_cons,if_neg (by simpa using hb)]
   rw [this]
   simp [hb]
  | cons c r =>
   unfold trL
   rw [List.cons_append,List.dropWhile_cons]
   by_cases hc:c=45
   ·have h2:(List.dropWhile (· == (45:UInt8)) (r++[b])).length≤(r++[b]).length:=(List.dropWhile_sublist _).length_le
    rw [if_pos (by simpa using hc)]
    have h3:List.dropWhile (· == (45:UInt8)) (r++[b])≠c::(r++[b]):=fun h=>by
     have:=congrArg List.length h
     simp only [List.length_cons] at this
     omega
    rw [decide_eq_true h3]
    simp [hc]
   ·rw [if_neg (by simpa using hc)]
    simp [hc,hb]
theorem y66 (k:Nat) (x:Bs) (h:x.length≤1000000000):z1c k x=if labB x then some (.inl ()) else some (.inr ([],3)):=by
 rw [x0h k x h]
 unfold z89 uk
 rw [Qm,xn _ _ h]
 simp only [Option.bind_some,Bool.not_not]
 have hc:∀ c:UInt8,([97,98,99,100,101,102,103,104,105,106,107,108,109,110,111,112,113,114,115,116,117,118,119,120,121,122,65,66,67,68,69,70,71,72,73,74,75,76,77,78,79,80,81,82,83,84,85,86,87,88,89,90,48,49,50,51,52,53,54,55,56,57,45]:Bs).contains c=labC c:=fun c=>by
  have:=jq (fun c=>([97,98,99,100,101,102,103,104,105,106,107,108,109,110,111,112,113,114,115,116,117,118,119,120,121,122,65,66,67,68,69,70,71,72,73,74,75,76,77,78,79,80,81,82,83,84,85,86,87,88,89,90,48,49,50,51,52,53,54,55,56,57,45]:Bs).contains c == labC c) (by decide +kernel) c
  simpa using this
 have ha:(x.all fun c=>([97,98,99,100,101,102,103,104,105,106,107,108,109,110,111,112,113,114,115,116,117,118,119,120,121,122,65,66,67,68,69,70,71,72,73,74,75,76,77,78,79,80,81,82,83,84,85,86,87,88,89,90,48,49,50,51,52,53,54,55,56,57,45]:Bs).contains c)=x.all labC:=by
  congr 1; funext c; exact hc c
 rw [ha]
 unfold labB labE
 by_cases h0:x=[]
 ·subst h0; rfl
 have h1:1≤x.length:=by cases x with | nil=>exact absurd rfl h0 | cons _ _=>simp
 have ho:outP (x.length:Int) 1 63 = !decide ((x.length:Int)≤63):=by
  rw [xm,show decide ((1:Int)≤(x.length:Int))=true from by simp; omega,Bool.true_and]
 rw [ho,trLR x h0,show decide (x≠[])=true from by simpa using h0]
 cases decide ((x.length:Int)≤63)
 ·simp
 ·cases x.all labC
  ·simp
  ·cases decide (x.head?≠some 45) <;> cases decide (x.getLast?≠some 45) <;> simp
theorem y7w (d:Bs):(lo d).length=d.length:=by simp [lo,Lib.toLowerA]
def yl (n:Bs) (l:List zk):List Bs:=(l.filter (nmB n)).map fun x=>x.Value
theorem z99 (n:Bs) (hn:ascB n=true):∀ (l:List zk) (k:Nat) (q:List Bs),(∀ x,x∈l→nmOK x)→q.length+l.length≤1000 →
  forL (fun (k:Nat) (x:zk) (s:(List Bs))=>Yh n k x s) (fun (s:(List Bs))=>z5n s) k l q=some (q++yl n l)
 | [],k,q,_,_=>by show some q=_; simp [yl]
 | x::l,k,q,h,hl=>by
  simp only [List.length_cons] at hl
  have hst:Yh n k x q=some (.inl (if nmB n x then q++[x.Value] else q)):=by
   unfold Yh Wz
   rw [z5i x n (h x (by simp)) hn]
   simp only [Option.bind_some]
   cases nmB n x
   ·rfl
   ·simp only [if_true]; rw [if_pos (by omega)]
  show (Yh n k x q).bind _=_
  rw [hst]
  have ih:=z99 n hn l (k+1) (if nmB n x then q++[x.Value] else q) (fun y hy=>h y (List.mem_cons_of_mem _ hy)) (by split <;> first | omega | (simp only [List.length_append,List.length_cons,List.length_nil]; omega))
  refine Eq.trans ih ?_
  unfold yl
  rw [List.filter_cons]
  cases nmB n x <;> simp
theorem z98 (n:Bs) (hn:ascB n=true∧n.length≤100000):∀ (l:List zk) (k:Nat) (q:List Bs),(∀ x,x∈l→nmOK x)→q.length+l.length≤1000 →
  forL (fun (k:Nat) (x:zk) (s:(List Bs))=>Zq n k x s) (fun (s:(List Bs))=>z6t s) k l q=some (q++yl n l)
 | [],k,q,_,_=>by show some q=_; simp [yl]
 | x::l,k,q,h,hl=>by
  simp only [List.length_cons] at hl
  have hst:Zq n k x q=some (.inl (if nmB n x then q++[x.Value] else q)):=by
   unfold Zq z09
   rw [z9x x.Name n (h x (by simp)) hn]
   simp only [Option.bind_some]
   show (if nmB n x=true then _ else _)=_
   cases nmB n x
   ·rfl
   ·simp only [if_true]; rw [if_pos (by omega)]
  show (Zq n k x q).bind _=_
  rw [hst]
  have ih:=z98 n hn l (k+1) (if nmB n x then q++[x.Value] else q) (fun y hy=>h y (List.mem_cons_of_mem _ hy)) (by split <;> first | omega | (simp only [List.length_append,List.length_cons,List.length_nil]; omega))
  refine Eq.trans ih ?_
  unfold yl
  rw [List.filter_cons]
  cases nmB n x <;> simp
theorem We (l:List zk) (n:Bs) (hl:l.length≤1000) (h:∀ x,x∈l→nmOK x) (hn:ascB n=true∧n.length≤100000):jk l n=some (yl n l)∧vy l n=some (yl n l):=by
 constructor
 ·unfold jk
  rw [if_pos (by omega),z99 n hn.1 l 0 [] h (by simpa using hl)]; rfl
 ·unfold vy
  rw [if_pos (by omega),z98 n hn l 0 [] h (by simpa using hl)]; rfl
theorem x0w {s:Bs} (h:fldB s=true):rgB s 32 126=true:=by
 unfold fldB at h
 simp only [Bool.and_eq_true] at h
 exact h.2.1
section
end
theorem y6y (r:yj) (h:hdsP r.Headers):Ok (z3a r) fun e=>z3l r=some e:=by
 have hh:=y27 r.Headers h
 unfold z3a z3l
 rw [y1q,Qm,hh.1,hh.2]
 simp only [Option.bind_some,Bool.not_not]
 split
 ·exact ym rfl
 ·split
  ·exact ym rfl
  ·split <;> exact ym rfl
def aQ (n:Nat) (s:Bs):Bool:=ascB s && decide (s.length≤n)
theorem x2g {n:Nat} {s:Bs} (h:aQ n s=true):ascB s=true∧s.length≤n:=by
 unfold aQ at h
 simpa using h
theorem y56 {k:Int} {s:ya} (h:SB k s) (hk:k≤100000000) (n:Nat) (l:List Bs) (hl:l≠[]∧l.length≤1000) (hQ:l.all (aQ n)=true):Ok (vj s l) fun r=>(ascB r.1=true∧r.1.length≤n)∧SB (k+1) r.2:=
 y1r (z7u h hk l hl) fun r hr=>⟨x2g (List.all_eq_true.1 hQ _ hr.1),hr.2⟩
end Go.Proofs.YtbcmpepmafpibabGreatDoor
