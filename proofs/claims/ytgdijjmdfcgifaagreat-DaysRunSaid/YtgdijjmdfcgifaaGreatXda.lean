/- Plain: a day of calls: which instance a try is sent to: the program and the document agree. -/
import Derived.Test.YtgdijjmdfcgifaaGreatXdv
import Derived.Test.YtgdijjmdfcgifaaGreatXds
namespace Go.Proofs.YtgdijjmdfcgifaaGreat
set_option linter.unusedVariables false
set_option maxRecDepth 20000
def stF (s:qb):Int:=if ciF s.Instances≠0 then ciF s.Instances else if (outP s.Tries 1 5 || (outP s.Timeout 1 3600000 || (outP s.Wait 0 s.MostWait || decide (3600000 < s.MostWait))))=true then 1 else if budF s.Budget≠0 then budF s.Budget else olF s.Outliers
theorem x0y (s:qb) (h:InsB s.Instances):z6c s=some (stF s):=by
 have e:∀ n lo hi,jv n lo hi=some (outP n lo hi):=fun _ _ _=>rfl
 unfold z6c Wr stF
 rw [x00 _ h,w1l,(y8b s.Outliers).1]
 simp only [e,Option.bind_some]
 by_cases h0:ciF s.Instances=0
 ·by_cases h1:budF s.Budget=0
  ·cases outP s.Tries 1 5 <;> cases outP s.Timeout 1 3600000 <;> cases outP s.Wait 0 s.MostWait <;> cases decide (3600000 < s.MostWait) <;> simp [h0,h1]
  ·cases outP s.Tries 1 5 <;> cases outP s.Timeout 1 3600000 <;> cases outP s.Wait 0 s.MostWait <;> cases decide (3600000 < s.MostWait) <;> simp [h0,h1]
 ·simp [h0]
theorem x5i (s:qb) (h:InsB s.Instances):z6m s=some (stF s):=by
 have e:∀ n lo hi,vy n lo hi=some (!outP n lo hi):=fun n lo hi=>by
  unfold vy; rw [z9m]; simp
 unfold z6m z0p stF
 rw [w0e _ h,w1p,(y8b s.Outliers).2]
 simp only [e,Option.bind_some]
 by_cases h0:ciF s.Instances=0
 ·by_cases h1:budF s.Budget=0
  ·cases outP s.Tries 1 5 <;> cases outP s.Timeout 1 3600000 <;> cases outP s.Wait 0 s.MostWait <;> cases decide (3600000 < s.MostWait) <;> simp [h0,h1]
  ·cases outP s.Tries 1 5 <;> cases outP s.Timeout 1 3600000 <;> cases outP s.Wait 0 s.MostWait <;> cases decide (3600000 < s.MostWait) <;> simp [h0,h1]
 ·simp [h0]
def clE (cl:List yi) (j:Nat) (x:yi):Int:=if (!keyP x.Id)=true then 5 else if ((cl.take j).any fun o=>decide (o.Id=x.Id))=true then 6 else if (!momP x.At)=true then 1 else if (decide (0 < j) && decide (x.At < ((cl[j - 1]?).getD x).At))=true then 7 else 0
def clF (cl:List yi):Int:=if 300 < cl.length then 2 else feI (clE cl) 0 cl
theorem x1a (rs:List yi) (j:Nat) (x:yi) (hj:rs[j]?=some x) (h0:0 < j):at? rs ((j:Int) - 1)=some ((rs[j - 1]?).getD x):=by
 have hl:=wq hj
 unfold at?
 rw [if_pos (by omega)]
 have:((j:Int) - 1).toNat=j - 1:=by omega
 rw [this,List.getElem?_eq_getElem (by omega)]; rfl
theorem x01 (cl:List yi) (hl:cl.length≤300) (hk:∀ x,x∈cl→x.Id.length≤1000):∀ (l:List yi) (k:Nat) (m:Bs→Bool) (n:Nat),cl.drop k=l→n≤k→(∀ q,m q=(cl.take k).any fun o=>decide (o.Id=q)) →
  forL (fun (k:Nat) (x:yi) (s:(Bs→Bool)×Nat)=>z05 cl k x s.1 s.2) (fun (s:(Bs→Bool)×Nat)=>z79 s.1 s.2) k l (m,n)=some (feI (clE cl) k l)
 | [],k,m,n,_,_,_=>rfl
 | x::l,k,m,n,hd,hn,hm=>by
  have hx:cl[k]?=some x:=by
   have:=congrArg (fun q=>q[0]?) hd
   simpa [List.getElem?_drop] using this
  have hkl:=wq hx
  have hxl:=hk x (List.mem_of_getElem? hx)
  have hd2:cl.drop (k+1)=l:=by
   have:=congrArg (List.drop 1) hd
   simpa [List.drop_drop,Nat.add_comm] using this
  have hm2:∀ q,upm m x.Id true q=(cl.take (k+1)).any fun o=>decide (o.Id=q):=fun q=>by
   rw [List.take_add_one,hx,List.any_append,← hm q]
   unfold upm
   by_cases h:q=x.Id
   ·rw [if_pos h]; simp [h]
   ·rw [if_neg h]; simp [Ne.symm h]
  have ih:=x01 cl hl hk l (k+1) (upm m x.Id true) (n+1) hd2 (by omega) hm2
  show (z05 cl k x m n).bind _=_
  have hmo:z6k x.At=some (momP x.At):=by
   unfold z6k momP
   congr 2
   exact decide_eq_decide.2 (by omega)
  have hb:z05 cl k x m n=if clE cl k x≠0 then some (.inr (clE cl k x)) else some (.inl (upm m x.Id true,n+1)):=by
   unfold z05 z2r
   rw [y9w _ (by omega),if_pos (show x.Id.length≤1000000000 by omega),if_pos (show x.Id.length≤1000000000∧n < 1000000 by omega),hm x.Id,hmo]
   unfold clE
   simp only [Option.bind_some]
   cases keyP x.Id
   ·rfl
   cases (cl.take k).any fun o=>decide (o.Id=x.Id)
   ·cases momP x.At
    ·rfl
    by_cases h0:0 < k
    ·have e0:decide (0 < (k:Int))=true:=by simp; omega
     have e1:decide (0 < k)=true:=by simpa using h0
     rw [x1a cl k x hx h0]
     simp only [e0,e1,Option.bind_some]
     cases decide (x.At < ((cl[k - 1]?).getD x).At) <;> rfl
    ·have e0:decide (0 < (k:Int))=false:=by simp; omega
     have e1:decide (0 < k)=false:=by simpa using h0
     simp only [e0,e1]
     rfl
   ·rfl
  rw [hb]
  show _=some (if clE cl k x≠0 then clE cl k x else feI (clE cl) (k+1) l)
  by_cases h:clE cl k x=0
  ·rw [if_neg (fun hh=>hh h),if_neg (fun hh=>hh h)]
   exact ih
  ·rw [if_pos h,if_pos h]
   rfl
theorem x02 (cl:List yi) (hl:cl.length≤300) (hk:∀ x,x∈cl→x.Id.length≤1000):z6e cl=some (clF cl):=by
 unfold z6e clF
 have a1:decide (300 < (cl.length:Int))=false:=by simp; omega
 have a2:¬ 300 < cl.length:=by omega
 have a3:cl.length≤1000000000:=by omega
 rw [a1,if_neg a2,if_pos a3]
 simp only [Bool.false_eq_true,if_false]
 exact x01 cl hl hk cl 0 _ 0 rfl (by omega) fun q=>rfl
theorem w0h (key:yi) (l0:List yi) (h:l0.length≤1000):z6h l0 (fun a0=>Wc a0 key)=some (l0.any fun o=>decide (o.Id=key.Id)):=by
 unfold z6h z93
 rw [if_pos (by omega)]
 have key':∀ (l:List yi) (k:Nat),∃ r,forL (fun (k:Nat) (x:yi) (s:Unit)=>Qu (fun (a0:yi)=>Wc a0 key) k x) (fun (s:Unit)=>z88) k l ()=some r∧decide (0≤r)=l.any fun o=>decide (o.Id=key.Id):=by
  intro l
  induction l with
  | nil=>intro k; exact ⟨-1,rfl,rfl⟩
  | cons x l ih =>
   intro k
   by_cases hx:x.Id=key.Id
   ·refine ⟨(k:Int),?_,?_⟩
    ·show (Qu _ k x).bind _=_
     simp [Qu,Wc,hx,after]
    ·simp [hx]
   ·have e2:Qu (fun (a0:yi)=>Wc a0 key) k x=some (.inl ()):=by
     simp [Qu,Wc,hx]
    obtain ⟨r,h1,h2⟩:=ih (k+1)
    refine ⟨r,?_,by rw [h2]; simp [hx]⟩
    show (Qu _ k x).bind _=_
    rw [e2]
    exact h1
 obtain ⟨r,h1,h2⟩:=key' l0 0
 rw [h1,Option.bind_some,h2]
theorem y7t (cl:List yi) (hl:cl.length≤300) (hk:∀ x,x∈cl→x.Id.length≤1000):z6x cl=some (clF cl):=by
 unfold z6x clF
 have a1:decide (300 < (cl.length:Int))=false:=by simp; omega
 have a2:¬ 300 < cl.length:=by omega
 have a3:cl.length≤1000000000:=by omega
 rw [a1,if_neg a2,if_pos a3]
 simp only [Bool.false_eq_true,if_false]
 refine y08 rfl cl 0 fun j x _ hj => ?_
 simp only [Nat.sub_zero] at hj
 have hjl:=wq hj
 have hxl:=hk x (List.mem_of_getElem? hj)
 unfold y0v z4j clE
 rw [y9d _ (by omega),x3u _ _ (by omega)]
 simp only [Option.bind_some]
 rw [w0h _ _ (by rw [List.length_take]; omega),x6v]
 simp only [Option.bind_some]
 cases keyP x.Id
 ·rfl
 cases (cl.take j).any fun o=>decide (o.Id=x.Id)
 ·cases momP x.At
  ·rfl
  by_cases h0:0 < j
  ·have e0:decide (0 < (j:Int))=true:=by simp; omega
   have e1:decide (0 < j)=true:=by simpa using h0
   rw [x1a cl j x hj h0]
   simp only [e0,e1,Option.bind_some]
   cases decide (x.At < ((cl[j - 1]?).getD x).At) <;> rfl
  ·have e0:decide (0 < (j:Int))=false:=by simp; omega
   have e1:decide (0 < j)=false:=by simpa using h0
   simp only [e0,e1]
   rfl
 ·rfl
def phE (xs:List zl) (ph:List zz) (j:Nat) (x:zz):Int:=
 if (!hasK xs x.Instance)=true then 8 else if (decide (x.Time.From < 0) || (decide (x.Time.To≤x.Time.From) || (decide (345686400000 < x.Time.To) || (outP x.Status 100 599 || outP x.Took 0 3600000))))=true then 1 else
  if (decide (0 < j) && (Op.bytesLess x.Instance ((ph[j - 1]?).getD x).Instance || (decide (x.Instance=((ph[j - 1]?).getD x).Instance) && decide (x.Time.From < ((ph[j - 1]?).getD x).Time.To))))=true then 7 else 0
def phF (xs:List zl) (ph:List zz):Int:=if 500 < ph.length then 2 else feI (phE xs ph) 0 ph
theorem x09 (rs:List zz) (j:Nat) (x:zz) (hj:rs[j]?=some x) (h0:0 < j):at? rs ((j:Int) - 1)=some ((rs[j - 1]?).getD x):=by
 have hl:=wq hj
 unfold at?
 rw [if_pos (by omega)]
 have:((j:Int) - 1).toNat=j - 1:=by omega
 rw [this,List.getElem?_eq_getElem (by omega)]; rfl
theorem y7s (xs:List zl) (hx:xs.length≤1000) (ph:List zz) (hl:ph.length≤500):z6q xs ph=some (phF xs ph):=by
 unfold z6q phF
 have a1:decide (500 < (ph.length:Int))=false:=by simp; omega
 have a2:¬ 500 < ph.length:=by omega
 have a3:ph.length≤1000000000:=by omega
 rw [a1,if_neg a2,if_pos a3]
 simp only [Bool.false_eq_true,if_false]
 refine y08 rfl ph 0 fun j x _ hj => ?_
 simp only [Nat.sub_zero] at hj
 obtain ⟨p,p1,p2⟩:=w0a xs x.Instance hx
 unfold y0p Wi z0r phE
 rw [p1,z4a,z4a]
 simp only [Option.bind_some,p2]
 cases hasK xs x.Instance
 ·rfl
 by_cases h0:0 < j
 ·have e0:decide (0 < (j:Int))=true:=by simp; omega
  have e1:decide (0 < j)=true:=by simpa using h0
  rw [x09 ph j x hj h0]
  simp only [e0,e1,Option.bind_some]
  cases decide (x.Time.From < 0) <;> cases decide (x.Time.To≤x.Time.From) <;> cases decide (345686400000 < x.Time.To) <;> cases outP x.Status 100 599 <;> cases outP x.Took 0 3600000 <;> (try rfl)
  cases Op.bytesLess x.Instance ((ph[j - 1]?).getD x).Instance <;> cases decide (x.Instance=((ph[j - 1]?).getD x).Instance) <;> cases decide (x.Time.From < ((ph[j - 1]?).getD x).Time.To) <;> rfl
 ·have e0:decide (0 < (j:Int))=false:=by simp; omega
  have e1:decide (0 < j)=false:=by simpa using h0
  simp only [e0,e1]
  cases decide (x.Time.From < 0) <;> cases decide (x.Time.To≤x.Time.From) <;> cases decide (345686400000 < x.Time.To) <;> cases outP x.Status 100 599 <;> cases outP x.Took 0 3600000 <;> rfl
theorem x0z (xs:List zl) (hB:InsB xs) (ph:List zz) (hl:ph.length≤500):z6d xs ph=some (if ciF xs≠0 then ciF xs else phF xs ph):=by
 unfold z6d
 rw [x00 xs hB]
 simp only [Option.bind_some]
 by_cases hc:ciF xs=0
 ·have hs:=x0w hc
  have b1:decide (ciF xs≠0)=false:=by simpa using hc
  have b2:¬ ciF xs≠0:=by simpa using hc
  have a1:decide (500 < (ph.length:Int))=false:=by simp; omega
  have a2:¬ 500 < ph.length:=by omega
  have a3:ph.length≤1000000000:=by omega
  unfold phF
  rw [b1,if_neg b2,a1,if_neg a2,if_pos a3]
  simp only [Bool.false_eq_true,if_false]
  refine y08 rfl ph 0 fun j x _ hj => ?_
  simp only [Nat.sub_zero] at hj
  obtain ⟨p,p1,p2,_⟩:=x6a xs x.Instance hB.len hs
  unfold z77 Qf z2p phE
  rw [p1,z3h,z3h]
  simp only [Option.bind_some,p2]
  cases hasK xs x.Instance
  ·rfl
  by_cases h0:0 < j
  ·have e0:decide ((j:Int)=0)=false:=by simp; omega
   have e1:decide (0 < j)=true:=by simpa using h0
   rw [x09 ph j x hj h0]
   simp only [e0,e1,Option.bind_some]
   cases decide (x.Time.From < 0) <;> cases decide (x.Time.To≤x.Time.From) <;> cases decide (345686400000 < x.Time.To) <;> cases outP x.Status 100 599 <;> cases outP x.Took 0 3600000 <;> (try rfl)
   cases Op.bytesLess x.Instance ((ph[j - 1]?).getD x).Instance <;> cases decide (x.Instance=((ph[j - 1]?).getD x).Instance) <;> cases decide (x.Time.From < ((ph[j - 1]?).getD x).Time.To) <;> rfl
  ·have e0:decide ((j:Int)=0)=true:=by simp; omega
   have e1:decide (0 < j)=false:=by simpa using h0
   simp only [e0,e1]
   cases decide (x.Time.From < 0) <;> cases decide (x.Time.To≤x.Time.From) <;> cases decide (345686400000 < x.Time.To) <;> cases outP x.Status 100 599 <;> cases outP x.Took 0 3600000 <;> rfl
 ·rw [if_pos (by simpa using hc),if_pos hc]
theorem y7n {k:Int} {s:zr} (h:SB k s) (hk:k≤1000000):Ok (z34 s) fun r=>SB (k+3) r.2:=by
 unfold z34
 exact yk (kf h (by omega) _ ⟨by simp,by simp⟩) fun r2 h2=>yk (kf h2.2 (by omega) _ ⟨by simp,by simp⟩) fun r4 h4=>yk (kf h4.2 (by omega) _ ⟨by simp,by simp⟩) fun r6 h6=>yc (h6.2.mono (by omega))
theorem w1o {k:Int} {s:zr} (h:SB k s) (hk:k≤1000000):Ok (z67 s) fun r=>SB (k+10) r.2:=by
 unfold z67
 refine yk (y7n h hk) fun r2 h2=>yk (Yz h2 (by omega) _ (by omega)) fun r4 h4=>wi (fun _ => ?_) (fun _ => ?_)
 ·exact yk (uf h4 (by omega) _ _ (by omega)) fun r7 h7=>yk (uf h7.2 (by omega) _ _ (by omega)) fun r9 h9=>yk (uf h9.2 (by omega) _ _ (by omega)) fun r11 h11=>yc (h11.2.mono (by omega))
 ·exact yc (h4.mono (by omega))
theorem y7l {k:Int} {s:zr} (h:SB k s) (hk:k≤1000000):Ok (z33 s) fun r=>SB (k+4) r.2:=by
 unfold z33
 exact yk (kf h (by omega) _ ⟨by simp,by simp⟩) fun a ha=>yk (kf ha.2 (by omega) _ ⟨by simp,by simp⟩) fun b hb=>yk (kf hb.2 (by omega) _ ⟨by simp,by simp⟩) fun c hc=>yk (kf hc.2 (by omega) _ ⟨by simp,by simp⟩) fun d hd=>yc (hd.2.mono (by omega))
theorem x6m {k:Int} {s:zr} (h:SB k s) (hk:k≤100000):Ok (z64 s) fun r=>SB (k+20) r.2:=by
 unfold z64 z4m
 refine yk (y7l h (by omega)) fun r2 h2 => ?_
 refine yk (Yz h2 (by omega) _ (by omega)) fun r4 h4=>wi (fun _ => ?_) (fun _=>yc (h4.mono (by omega)))
 refine yk (uf h4 (by omega) 1 100 (by omega)) fun a ha=>yk (uf ha.2 (by omega) 1 20 (by omega)) fun b hb=>yk (uf hb.2 (by omega) 1 3600000 (by omega)) fun c hc=>yk (uf hc.2 (by omega) 0 1000 (by omega)) fun d hd=>yc (hd.2.mono (by omega))
theorem x5w {k:Int} {s:zr} (h:SB k s) (hk:k≤100000):Ok (z60 s) fun r=>(InsB r.1.Instances∧r.1.Instances.length≤4)∧SB (k+20) r.2:=by
 unfold z60
 exact yk (y7m h (by omega)) fun r2 h2=>yk (kf h2.2 (by omega) _ ⟨by simp,by simp⟩) fun r4 h4=>yk (kf h4.2 (by omega) _ ⟨by simp,by simp⟩) fun r6 h6=>yk (kf h6.2 (by omega) _ ⟨by simp,by simp⟩) fun r8 h8=>yk (y7n h8.2 (by omega)) fun r10 h10=>yk (y7l h10 (by omega)) fun r12 h12=>yk (kf h12 (by omega) _ ⟨by simp,by simp⟩) fun r14 h14=>yc ⟨⟨⟨by have:=h2.1.2.1; show r2.1.length≤_; omega,h2.1.2.2⟩,h2.1.2.1⟩,h14.2.mono (by omega)⟩
theorem x5g {k:Int} {s:zr} (h:SB k s) (hk:k≤10000):Ok (z6z s) fun r=>(InsB r.1.Instances∧r.1.Instances.length≤4)∧SB (k+60) r.2:=by
 unfold z6z Wj
 refine yk (x5w h (by omega)) fun r2 h2=>yk (Yz h2.2 (by omega) _ (by omega)) fun r4 h4=>wi (fun _ => ?_) (fun _=>yc ⟨h2.1,h4.mono (by omega)⟩)
 refine yk (z0k h4 (by omega) _ (by omega)) fun r7 h7=>wi (fun _ => ?_) fun _=>wi (fun _ => ?_) fun _=>wi (fun _ => ?_) fun _ => ?_
 ·exact yk (w0b h7.2 (by omega)) fun r10 h10=>yc ⟨h10.1,h10.2.mono (by omega)⟩
 ·exact yk (uf h7.2 (by omega) _ _ (by omega)) fun a ha=>yk (uf ha.2 (by omega) _ _ (by omega)) fun b hb=>yc ⟨h2.1,hb.2.mono (by omega)⟩
 ·exact yk (uf h7.2 (by omega) _ _ (by omega)) fun a ha=>yk (uf ha.2 (by omega) _ _ (by omega)) fun b hb=>yc ⟨h2.1,hb.2.mono (by omega)⟩
 ·exact yk (w1o h7.2 (by omega)) fun a ha=>yk (x6m ha (by omega)) fun b hb=>yc ⟨h2.1,hb.mono (by omega)⟩
theorem w1j:∀ k:Nat,k < 20→(encL (IntKind.wrap .i32 (wr (97+(k:Int))))).length≤4:=by decide
def y49 (cl:List yi):Prop:=cl.length≤7∧∀ x,x∈cl→x.Id.length≤1000
theorem x5y {k:Int} {s:zr} (h:SB k s) (hk:k≤100000):Ok (z62 s 7) fun r=>y49 r.1∧SB (k+10) r.2:=by
 unfold z62
 refine yk (y3a h (by omega) 0 7 (by omega)) fun r3 h3=>ok_g (by omega) ?_
 refine z55 (I:=fun (j:Nat) (q:Int×(List Int)×Int×(List yi))=>SB (k+1+(j:Int)) ⟨q.2.1,q.2.2.1⟩∧q.2.2.2.length=j∧∀ x,x∈q.2.2.2→x.Id.length≤1000) _ 0 _ ⟨by simpa [SB] using h3.2,rfl,by simp⟩ ?_ ?_
 ·rintro j ⟨v5,c6,c7,l8⟩ _ hj ⟨h1,h2,h4⟩
  simp only at h1 h2 h4
  have hj7:j < 7:=by omega
  have hc:=w1j j (by omega)
  unfold y02
  refine yk (kf h1 (by omega) _ ⟨by simp,by simp⟩) fun r13 h13=>ok_g (by simp; omega) (ok_g (by show l8.length+1≤_; omega) (yc ⟨h13.2.mono (by omega),by simp [h2],fun y hy => ?_⟩))
  rcases List.mem_append.1 hy with hy | hy
  ·exact h4 y hy
  ·simp at hy
   subst hy
   show ([99]++encL _).length≤1000
   simp; omega
 ·rintro ⟨v5,c6,c7,l8⟩ ⟨h1,h2,h4⟩
  simp only at h1 h2 h4
  unfold y03
  exact yc ⟨⟨by show l8.length≤7; omega,h4⟩,h1.mono (by omega)⟩
theorem w1m {k:Int} {s:zr} (h:SB k s) (hk:k≤100000):Ok (z66 s 7) fun r=>y49 r.1∧SB (k+30) r.2:=by
 unfold z66 z4n z4o
 refine yk (x5y h hk) fun r3 h3=>wi (fun hp => ?_) (fun _=>yc ⟨h3.1,h3.2.mono (by omega)⟩)
 have hp:0 < r3.1.length:=by simpa using hp
 have hl:=h3.1.1
 refine yk (Yz h3.2 (by omega) _ (by omega)) fun r7 h7=>wi (fun _ => ?_) (fun _=>yc ⟨h3.1,h7.mono (by omega)⟩)
 refine yk (z0k h7 (by omega) _ (by omega)) fun r14 h14 => ?_
 have h1:=h14.1.2.1 (by omega)
 have hat:Ok (at? r3.1 r14.1) fun x=>x∈r3.1:=by
  unfold at?
  rw [if_pos h14.1.1,List.getElem?_eq_getElem (by omega)]
  exact ⟨_,rfl,List.getElem_mem _⟩
 refine yk hat fun x16 h16=>yk (y2o h14.2 (by omega) _ ⟨by simp,by simp⟩) fun r18 h18=>yk (uf h18.2 (by omega) 0 100 (by omega)) fun r20 h20=>yc ⟨⟨by simp; omega,fun y hy => ?_⟩,h20.2.mono (by omega)⟩
 have hk18:r18.1.length≤1000:=by
  have:=h18.1
  simp only [List.mem_cons,List.not_mem_nil,or_false] at this
  rcases this with e | e | e
  ·rw [e]; exact h3.1.2 x16 h16
  ·rw [e]; simp
  ·rw [e]; simp
 rcases List.mem_or_eq_of_mem_set hy with hy | hy
 ·rcases List.mem_or_eq_of_mem_set hy with hy | hy
  ·exact h3.1.2 y hy
  ·rw [hy]; exact hk18
 ·rw [hy]; exact hk18
structure InsG (xs:List zl):Prop where
 srt:Srt xs
 len:xs.length≤50
 key:∀ x,x∈xs→keyP x.Key=true
 wgt:∀ x,x∈xs→1≤x.Weight∧x.Weight≤100
theorem y9c {s:Bs} (h:keyP s=true):s.length≤40∧s≠[]:=by
 unfold keyP at h
 simp only [Bool.and_eq_true,decide_eq_true_eq] at h
 exact ⟨by omega,h.2.1⟩
theorem y4m:∀ (l:List zl) (last:Bs),ciR l last=0→∀ x,x∈l→keyP x.Key=true∧1≤x.Weight∧x.Weight≤100
 | [],last,_=>fun x h=>by cases h
 | x::l,last,h=>by
  simp only [ciR] at h
  by_cases hc:ci1 x (leB x.Key last)≠0
  ·rw [if_pos hc] at h; exact absurd h hc
  ·rw [if_neg hc] at h
   have hc':ci1 x (leB x.Key last)=0:=by omega
   have hx:keyP x.Key=true∧1≤x.Weight∧x.Weight≤100:=by
    unfold ci1 ci3 at hc'
    cases hk:keyP x.Key
    ·rw [hk] at hc'; simp at hc'
    ·cases hq:leB x.Key last
     ·rw [hk,hq] at hc'
      cases ho:outP x.Weight 1 100
      ·unfold outP at ho
       simp only [Bool.or_eq_false_iff,decide_eq_false_iff_not] at ho
       exact ⟨rfl,by omega⟩
      ·rw [ho] at hc'; simp at hc'
     ·rw [hk,hq] at hc'; simp at hc'
   intro y hy
   rcases List.mem_cons.1 hy with rfl | hy
   ·exact hx
   ·exact y4m l x.Key h y hy
theorem w0c {xs:List zl} (h:ciF xs=0):InsG xs:=by
 have hs:=x0w h
 unfold ciF at h
 split at h
 ·omega
 ·exact ⟨hs,by omega,fun x hx=>(y4m xs [] h x hx).1,fun x hx=>(y4m xs [] h x hx).2⟩
def hst (h:Int) (c:UInt8):Int:=IntKind.wrap .u64 ((xor_ .u64 h (IntKind.wrap .u64 (c.toNat:Int))) * 1099511628211)
def hsh (l:Bs):Int:=l.foldl hst 14695981039346656037
def ldF:List jl→Bs→Int
 | [],_=>0
 | x::l,key=>if x.Instance=key then x.Many else ldF l key
theorem y83 (key:Bs):∀ (l:List jl) (k:Nat),forL (fun (k:Nat) (x:jl) (s:Unit)=>z4c key k x) (fun (s:Unit)=>y0n) k l ()=some (ldF l key)
 | [],k=>rfl
 | x::l,k=>by
  show (z4c key k x).bind _=some (if x.Instance=key then x.Many else ldF l key)
  unfold z4c
  by_cases h:x.Instance=key
  ·rw [if_pos (by simpa using h),if_pos h]; rfl
  ·rw [if_neg (by simpa using h),if_neg h]
   exact y83 key l (k+1)
theorem x7b (l:List jl) (key:Bs) (h:l.length≤1000000000):z1v l key=some (ldF l key):=by
 unfold z1v
 rw [if_pos h,y83]
def sN:List Int→Int
 | []=>0
 | x::l=>x+sN l
def erF:List Int→Int
 | []=>0
 | x::l=>if x≠0 then x else erF l
theorem x0m:∀ (l:List Int) (k:Nat),forL (fun (k:Nat) (x:Int) (s:Unit)=>z4q k x) (fun (s:Unit)=>y04) k l ()=some (erF l)
 | [],k=>rfl
 | x::l,k=>by
  show (z4q k x).bind _=some (if x≠0 then x else erF l)
  unfold z4q
  by_cases h:x≠0
  ·rw [if_pos (by simpa using h),if_pos h]; rfl
  ·rw [if_neg (by simpa using h),if_neg h]
   exact x0m l (k+1)
theorem x0l (l:List Int) (h:l.length≤1000):z68 l=some (erF l):=by
 unfold z68
 rw [if_pos (by omega),x0m]
theorem x1t (b:Bool) (e:Int):z35 b e=some (if b=true then e else 0):=by
 unfold z35
 cases b <;> rfl
theorem x5x {k:Int} {s:zr} (h:SB k s) (hk:k≤100000) (xs:List zl) (hx:xs.length≤4):Ok (z61 s xs) fun r=>r.1.length≤12∧SB (k+60) r.2:=by
 unfold z61
 refine ok_g (by omega) ?_
 refine kg (I:=fun (j:Nat) (q:(List Int)×Int×(List zz))=>SB (k+13 * (j:Int)) ⟨q.1,q.2.1⟩∧q.2.2.length≤3 * j) _ 0 _ ⟨by simpa [SB] using h,by simp⟩ ?_ ?_
 ·rintro j x ⟨c3,c4,l5⟩ _ hj ⟨h1,h2⟩
  simp only at h1 h2
  have hjl:j < 4:=by have:=wq hj; omega
  unfold y0z
  refine yk (y3a h1 (by omega) 0 3 (by omega)) fun r12 h12=>ok_g (by omega) ?_
  refine z55 (I:=fun (i:Nat) (q:Int×(List Int)×Int×(List zz))=>SB (k+13 * (j:Int)+1+4 * (i:Int)) ⟨q.2.1,q.2.2.1⟩∧q.2.2.2.length≤3 * j+i) _ 0 _ ⟨by simpa [SB] using h12.2,by simpa using h2⟩ ?_ ?_
  ·rintro i ⟨v14,c15,c16,l17⟩ _ hi ⟨g1,g2⟩
   simp only at g1 g2
   unfold y0y
   refine yk (kf g1 (by omega) _ ⟨by simp,by simp⟩) fun a ha=>yk (kf ha.2 (by omega) _ ⟨by simp,by simp⟩) fun b hb=>yk (kf hb.2 (by omega) _ ⟨by simp,by simp⟩) fun c hc=>yk (kf hc.2 (by omega) _ ⟨by simp,by simp⟩) fun d hd=>ok_g (by show l17.length+1≤_; omega) (yc ?_)
   exact ⟨hd.2.mono (by omega),by simp; omega⟩
  ·rintro ⟨v14,c15,c16,l17⟩ ⟨g1,g2⟩
   simp only at g1 g2
   unfold y00
   exact yc ⟨g1.mono (by omega),by show l17.length≤_; omega⟩
 ·rintro ⟨c3,c4,l5⟩ ⟨h1,h2⟩
  simp only at h1 h2
  unfold y01
  exact yc ⟨by show l5.length≤_; omega,h1.mono (by omega)⟩
theorem x6e {k:Int} {s:zr} (h:SB k s) (hk:k≤100000) (xs:List zl) (hx:xs.length≤4):Ok (z63 s xs) fun r=>r.1.length≤12:=by
 unfold z63 z4k z4l
 refine yk (x5x h hk xs hx) fun r3 h3=>wi (fun hp => ?_) (fun _=>yc h3.1)
 have hp:0 < r3.1.length:=by simpa using hp
 have hl:=h3.1
 refine yk (Yz h3.2 (by omega) _ (by omega)) fun r7 h7=>wi (fun _ => ?_) (fun _=>yc h3.1)
 refine yk (z0k h7 (by omega) _ (by omega)) fun r14 h14 => ?_
 have h1:=h14.1.2.1 (by omega)
 have hat:Ok (at? r3.1 r14.1) fun x=>x∈r3.1:=by
  unfold at?
  rw [if_pos h14.1.1,List.getElem?_eq_getElem (by omega)]
  exact ⟨_,rfl,List.getElem_mem _⟩
 refine yk hat fun x16 h16=>yk (y2o h14.2 (by omega) _ ⟨by simp,by simp⟩) fun r18 h18=>yk (uf h18.2 (by omega) 0 50 (by omega)) fun a ha=>yk (uf ha.2 (by omega) 100 599 (by omega)) fun b hb=>yk (uf hb.2 (by omega) 0 3600000 (by omega)) fun c hc=>yc ?_
 simp; omega
theorem y92:∀ (n a b:Nat),b < n→a≤100000→b≤100000→iter (fun (s:Int×Int)=>z12 s.1 s.2) ((a:Int),(b:Int))=some ((Nat.gcd a b:Nat):Int)
 | 0,a,b,h,_,_=>by omega
 | n+1,a,b,h,ha,hb=>by
  by_cases h0:b=0
  ·subst h0
   refine Wg ?_
   unfold z12 z7f
   rw [if_neg (by simp),if_pos (by omega)]
   simp only [Option.map_some,Nat.gcd_zero_right]
   congr 2
   omega
  ·have hm:=Nat.mod_lt a (show 0 < b by omega)
   have e:z12 (a:Int) (b:Int)=some (.inl ((b:Int),((a % b:Nat):Int))):=by
    unfold z12
    rw [if_pos (by simp; omega),if_pos (by omega),← Int.ofNat_tmod]
   rw [Yw (s:=((a:Int),(b:Int))) (s':=((b:Int),((a % b:Nat):Int))) e,y92 n b (a % b) (by omega) hb (by omega)]
   congr 2
   rw [Nat.gcd_comm b (a % b),← Nat.gcd_rec b a,Nat.gcd_comm]
theorem y91 (num den:Int):∀ (n a b:Nat),b < n→a≤100000→b≤100000→iter (fun (s:Int×Int)=>z16 num den s.1 s.2) ((a:Int),(b:Int))=z17 num den ((Nat.gcd a b:Nat):Int)
 | 0,a,b,h,_,_=>by omega
 | n+1,a,b,h,ha,hb=>by
  by_cases h0:b=0
  ·subst h0
   rw [y9t]
   simp only
   unfold z16
   rw [if_neg (by simp),Nat.gcd_zero_right]
   cases z17 num den (a:Int) <;> rfl
  ·have hm:=Nat.mod_lt a (show 0 < b by omega)
   have e:z16 num den (a:Int) (b:Int)=some (.inl ((b:Int),((a % b:Nat):Int))):=by
    unfold z16
    rw [if_pos (by simp; omega),if_pos (by omega),← Int.ofNat_tmod]
   rw [Yw (s:=((a:Int),(b:Int))) (s':=((b:Int),((a % b:Nat):Int))) e,y91 num den n b (a % b) (by omega) hb (by omega)]
   congr 2
   rw [Nat.gcd_comm b (a % b),← Nat.gcd_rec b a,Nat.gcd_comm]
theorem x68 (a b:Nat) (hb:0 < b) (h1:a≤1000) (h2:b≤1000):∃ f,z6j (a:Int) (b:Int)=some f∧z6t (a:Int) (b:Int)=some f:=by
 have hg:0 < Nat.gcd a b:=Nat.gcd_pos_of_pos_right a hb
 refine ⟨⟨(a:Int) / ((Nat.gcd a b:Nat):Int),(b:Int) / ((Nat.gcd a b:Nat):Int)⟩,?_,?_⟩
 ·unfold z6j z39 z99
  rw [if_neg (by simp),y92 (b+1) a b (by omega) (by omega) (by omega)]
  simp only [Option.bind_some]
  rw [if_pos ⟨by omega,by omega⟩,if_pos ⟨by omega,by omega⟩]
 ·unfold z6t
  rw [y91 (a:Int) (b:Int) (b+1) a b (by omega) (by omega) (by omega)]
  unfold z17 z4h
  rw [if_neg (by simp),if_pos ⟨by omega,by omega⟩,if_pos ⟨by omega,by omega⟩]
theorem x5j (l:List yf) (h0:l≠[]) (hl:l.length≤300):∃ f,z1r l=some (f,0)∧z6n l=some f:=by
 have hp:0 < l.length:=List.length_pos_iff.2 h0
 unfold z1r z6n
 rw [if_neg (by simp; omega),if_neg (by simp; omega),if_pos (by omega),if_pos (by omega)]
 have key:=y99 (body:=fun (k:Nat) (x:yf) (s:Int)=>z42 k x s) (body':=fun (k:Nat) (x:yf) (s:Int)=>z7l k x s)
  (fin:=fun (s:Int)=>z43 l s) (fin':=fun (s:Int)=>z7m l s) (fun k s s'=>s'=s∧0≤s∧s≤(k:Int)) (fun r r'=>r=(r',0)) l 0 0 0 ⟨rfl,by omega,by omega⟩ ?_ ?_
 ·obtain ⟨r,r',q1,q2,rfl⟩:=key
  exact ⟨r',q1,q2⟩
 ·rintro k x s s' _ hk ⟨rfl,h1,h2⟩
  have hkl:=wq hk
  left
  unfold z42 z7l z2o z4f
  rw [z3h,z4a]
  simp only [Option.bind_some]
  cases outP x.Status 100 499
  ·simp only [Bool.not_false,if_true]
   rw [qy (by omega)]
   exact ⟨_,_,rfl,rfl,rfl,by omega,by omega⟩
  ·simp only [Bool.not_true,Bool.false_eq_true,if_false]
   exact ⟨_,_,rfl,rfl,rfl,by omega,by omega⟩
 ·rintro s s' ⟨rfl,h1,h2⟩
  obtain ⟨n,rfl⟩:∃ n:Nat,s'=(n:Int):=⟨s'.toNat,by omega⟩
  obtain ⟨f,f1,f2⟩:=x68 n l.length hp (by omega) (by omega)
  unfold z43 z7m
  rw [f1,f2]
  exact ⟨_,_,rfl,rfl,rfl⟩
theorem y45 {α:Type}:∀ (l:List α) (k:Nat),allI (fun (_:Nat) (_:α)=>true) k l=true
 | [],k=>rfl
 | x::l,k=>by simp only [allI,y45 l (k+1),Bool.and_self]
theorem x3i (a:List qc) (h:a.length≤1000000000):z6g a a=some true:=by
 unfold z6g
 rw [if_neg (by simp),if_pos h]
 rw [z7q (p:=fun _ _=>true) (r0:=false) (e:=true) rfl a 0 fun j x _ hj => ?_,y45]
 ·rfl
 ·have hj:a[j]?=some x:=by simpa using hj
  unfold z89
  simp [hj]
theorem y73 (a:List yf) (h:a.length≤1000000000) (ht:∀ o,o∈a→o.Tries.length≤1000000000):z3z a a=some true:=by
 unfold z3z z94
 rw [if_neg (by simp),if_pos h]
 rw [z7q (p:=fun _ _=>true) (r0:=false) (e:=true) rfl a 0 fun j x _ hj => ?_,y45]
 ·rfl
 ·have hj:a[j]?=some x:=by simpa using hj
  unfold z9a z6o z0q
  simp [hj,x3i x.Tries (ht x (List.mem_of_getElem? hj))]
def lsS (ld:Bs→Int) (c:Option zl) (x:zl):Option zl:=
 match c with
 | none=>some x
 | some y=>if (ld x.Key+1) * y.Weight < (ld y.Key+1) * x.Weight then some x else some y
def lsF (ld:Bs→Int) (l:List zl) (c:Option zl):Option zl:=l.foldl (lsS ld) c
def atC (xs:List zl) (r:Int) (c:Option zl):Prop:=
 match c with
 | none=>r=-1
 | some y=>∃ j:Nat,r=(j:Int)∧xs[j]?=some y
theorem y8w (ld:Bs→Int) (l:List zl) (c:Option zl) (x:zl):lsF ld (l++[x]) c=lsS ld (lsF ld l c) x:=by
 unfold lsF; rw [List.foldl_append]; rfl
theorem x66 (ld:Bs→Int) (y x:zl):∃ z,lsS ld (some y) x=some z∧(z=y∨z=x):=by
 show ∃ z,(if (ld x.Key+1) * y.Weight < (ld y.Key+1) * x.Weight then some x else some y)=some z∧(z=y∨z=x)
 split
 ·exact ⟨x,rfl,.inr rfl⟩
 ·exact ⟨y,rfl,.inl rfl⟩
theorem y8v (ld:Bs→Int):∀ (l:List zl) (y:zl),∃ z,lsF ld l (some y)=some z∧(z=y∨z∈l)
 | [],y=>⟨y,rfl,.inl rfl⟩
 | x::l,y=>by
  obtain ⟨z,h1,h2⟩:=x66 ld y x
  obtain ⟨q,h3,h4⟩:=y8v ld l z
  refine ⟨q,by show lsF ld l (lsS ld (some y) x)=_; rw [h1]; exact h3,?_⟩
  rcases h4 with rfl | h4
  ·rcases h2 with rfl | rfl
   ·exact .inl rfl
   ·exact .inr (by simp)
  ·exact .inr (by simp [h4])
theorem x67 (ld:Bs→Int) (l:List zl) (h:l≠[]):∃ y,y∈l∧lsF ld l none=some y:=by
 cases l with
 | nil=>exact absurd rfl h
 | cons x l =>
  obtain ⟨z,h1,h2⟩:=y8v ld l x
  exact ⟨z,by rcases h2 with rfl | h2 <;> simp [*],h1⟩
theorem prd {a w:Int} (ha:0≤a∧a≤1000000) (hw:1≤w∧w≤100):wr ((wr (a+1)) * w)=(a+1) * w:=by
 have h1:(a+1) * w≤1000001 * 100:=Int.mul_le_mul (by omega) hw.2 (by omega) (by omega)
 have h2:0≤(a+1) * w:=Int.mul_nonneg (by omega) (by omega)
 rw [qy (n:=a+1) (by omega),qy (by omega)]
theorem z4s {α:Type} (P:α→Bool) (xs:List α) (j:Nat) (x:α) (hj:xs[j]?=some x):(xs.take (j+1)).filter P=(xs.take j).filter P++(if P x=true then [x] else []):=by
 rw [List.take_add_one,hj,List.filter_append]
 cases h:P x <;> simp [h]
theorem y81 {xs:List zl} {loads:List Int} {p:Int→Option Bool} (P:zl→Bool) (ld:Bs→Int) (hw:∀ x,x∈xs→1≤x.Weight∧x.Weight≤100) (hl:∀ (i:Nat) x,xs[i]?=some x→loads[i]?=some (ld x.Key)) (hld:∀ k,0≤ld k∧ld k≤1000000)
  (hp:∀ (i:Nat) x,xs[i]?=some x→p (i:Int)=some (P x)) (hx:xs.length≤1000000):Ok (z3s xs loads p) fun r=>atC xs r (lsF ld (xs.filter P) none):=by
 unfold z3s
 refine ok_g (by omega) ?_
 refine kg (I:=fun k (s:Int)=>atC xs s (lsF ld ((xs.take k).filter P) none)) xs 0 (-1) rfl ?_ ?_
 ·intro j x s _ hj hs
  have hj:xs[j]?=some x:=by simpa using hj
  have hF:lsF ld ((xs.take (j+1)).filter P) none=if P x=true then lsS ld (lsF ld ((xs.take j).filter P) none) x else lsF ld ((xs.take j).filter P) none:=by
   rw [z4s P xs j x hj]
   by_cases h:P x=true
   ·rw [if_pos h,if_pos h,y8w]
   ·rw [if_neg h,if_neg h,List.append_nil]
  show Ok _ (rd (fun s=>atC xs s (lsF ld ((xs.take (j+1)).filter P) none)) _)
  rw [hF]
  generalize lsF ld ((xs.take j).filter P) none=c at hs
  have hwx:=hw x (List.mem_of_getElem? hj)
  unfold z75 z02 z2n
  rw [hp j x hj]
  simp only [Option.bind_some]
  by_cases hP:P x=true
  ·rw [if_pos hP,if_pos hP]
   cases c with
   | none =>
    have hs:s=-1:=hs
    rw [hs,if_pos (by simp),if_pos trivial]
    exact yc ⟨j,rfl,hj⟩
   | some y =>
    obtain ⟨i,rfl,hi⟩:=hs
    have hwy:=hw y (List.mem_of_getElem? hi)
    rw [if_neg (by simp),hl j x hj,vz,hi,vz,hl i y hi]
    simp only [Option.bind_some]
    rw [prd (hld _) hwy,prd (hld _) hwx]
    by_cases hc:(ld x.Key+1) * y.Weight < (ld y.Key+1) * x.Weight
    ·rw [if_pos (by simpa using hc)]
     refine yc ?_
     show atC xs _ (lsS ld (some y) x)
     rw [show lsS ld (some y) x=some x from if_pos hc]
     exact ⟨j,rfl,hj⟩
    ·rw [if_neg (by simpa using hc)]
     refine yc ?_
     show atC xs _ (lsS ld (some y) x)
     rw [show lsS ld (some y) x=some y from if_neg hc]
     exact ⟨i,rfl,hi⟩
  ·rw [if_neg hP,if_neg hP,if_neg (by simp)]
   exact yc hs
 ·intro s hs
  unfold z76
  refine yc ?_
  have hs:atC xs s (lsF ld ((xs.take (0+xs.length)).filter P) none):=hs
  rw [Nat.zero_add,List.take_length] at hs
  exact hs
theorem x7k {F:List zl} {loads:List jl} (ld:Bs→Int) (hw:∀ x,x∈F→1≤x.Weight∧x.Weight≤100) (hlo:∀ x,x∈F→z1v loads x.Key=some (ld x.Key)) (hld:∀ k,0≤ld k∧ld k≤1000000) (hn:F≠[]) (hl:F.length≤1000000) :
  Ok (z6u F loads) fun k=>∃ y,y∈F∧lsF ld F none=some y∧k=y.Key:=by
 have hp:0 < F.length:=List.length_pos_iff.2 hn
 obtain ⟨x0,h0⟩:∃ x,F[0]?=some x:=⟨_,List.getElem?_eq_getElem hp⟩
 unfold z6u
 rw [h0]
 simp only [Option.bind_some]
 refine ok_g (by omega) ?_
 refine kg (I:=fun k (s:Bs×Int)=>∃ y,y∈F∧s=(y.Key,y.Weight)∧(k=0→y=x0)∧(0 < k→lsF ld (F.take k) none=some y)) F 0 _ ⟨x0,List.mem_of_getElem? h0,rfl,fun _=>rfl,fun h=>by omega⟩ ?_ ?_
 ·rintro j x s _ hj ⟨y,y1,rfl,y3,y4⟩
  have hj:F[j]?=some x:=by simpa using hj
  have hx:=List.mem_of_getElem? hj
  have ht:lsF ld (F.take (j+1)) none=lsS ld (lsF ld (F.take j) none) x:=by
   rw [List.take_add_one,hj]; exact y8w ld _ _ _
  unfold y0s z4i
  simp only
  rw [hlo x hx,hlo y y1]
  simp only [Option.bind_some]
  rw [prd (hld _) (hw y y1),prd (hld _) (hw x hx)]
  by_cases hj0:j=0
  ·subst hj0
   have e:y=x0:=y3 rfl
   rw [h0] at hj; cases hj
   subst e
   rw [if_neg (by simp)]
   exact yc ⟨y,y1,rfl,fun h=>by omega,fun _=>ht⟩
  ·rw [y4 (by omega)] at ht
   by_cases hc:(ld x.Key+1) * y.Weight < (ld y.Key+1) * x.Weight
   ·rw [if_pos (by simpa using hc)]
    exact yc ⟨x,hx,rfl,fun h=>by omega,fun _=>by rw [ht]; exact if_pos hc⟩
   ·rw [if_neg (by simpa using hc)]
    exact yc ⟨y,y1,rfl,fun h=>by omega,fun _=>by rw [ht]; exact if_neg hc⟩
 ·rintro s ⟨y,y1,rfl,y3,y4⟩
  unfold y0t
  rw [Nat.zero_add,List.take_length] at y4
  exact yc ⟨y,y1,y4 hp,rfl⟩
def ixK (xs:List zl) (key:Bs):Int:=fdx (fun y:zl=>decide (y.Key=key)) 0 xs
theorem z13 {xs:List zl} (hs:Srt xs) {i:Nat} {x:zl} (h:xs[i]?=some x):ixK xs x.Key=(i:Int):=w0z (f:=fun y:zl=>y.Key) hs h rfl
def tO (xs:List zl) (u:qv):zt:=⟨u.call_,ixK xs u.try_.Instance,u.try_.Sent,u.try_.Done,u.try_.Status⟩
def ldW (way:List qv) (key:Bs):Int:=((way.filter fun u=>decide (u.try_.Instance=key)).length:Int)
theorem z7e {way:List qv} (h:way.length≤1000000) (k:Bs):0≤ldW way k∧ldW way k≤1000000:=by
 have:=List.length_filter_le (fun u:qv=>decide (u.try_.Instance=k)) way
 unfold ldW; omega
theorem x69 {xs:List zl} (hs:Srt xs) (hl:xs.length≤1000) {way:List qv} (hw:∀ u,u∈way→hasK xs u.try_.Instance=true) (hn:way.length≤1000000) :
  Ok (z98 xs.length (way.map (tO xs))) fun l=>∀ (i:Nat) x,xs[i]?=some x→l[i]?=some (ldW way x.Key):=by
 unfold z98
 refine ok_g (by rw [List.length_map]; omega) ?_
 refine kg (I:=fun k (l:List Int)=>∀ (i:Nat) x,xs[i]?=some x→l[i]?=some (ldW (way.take k) x.Key)) (way.map (tO xs)) 0 _ ?_ ?_ ?_
 ·intro i x hx
  rw [List.getElem?_replicate,if_pos (wq hx)]
  rfl
 ·intro j t l _ hj hI
  have hj:(way.map (tO xs))[j]?=some t:=by simpa using hj
  rw [List.getElem?_map] at hj
  obtain ⟨u,hu,rfl⟩:=Option.map_eq_some_iff.1 hj
  have hjl:=wq hu
  have hk:=hw u (List.mem_of_getElem? hu)
  obtain ⟨i,x,hi,hx⟩:=z4b.1 hk
  have e1:(tO xs u).instance_=(i:Int):=by show ixK xs u.try_.Instance=_; rw [← hx]; exact z13 hs hi
  have hr:=z7e (way:=way.take j) (by rw [List.length_take]; omega) x.Key
  unfold y1d
  rw [e1,vz,hI i x hi]
  simp only [Option.bind_some,Int.toNat_natCast]
  rw [qy (by omega)]
  refine yc fun q y hq => ?_
  have e2:ldW (way.take (j+1)) y.Key=ldW (way.take j) y.Key+if u.try_.Instance=y.Key then 1 else 0:=by
   unfold ldW
   rw [z4s _ way j u hu,List.length_append]
   by_cases h:u.try_.Instance=y.Key <;> simp [h]
  by_cases hqi:q=i
  ·subst hqi
   rw [hi] at hq; cases hq
   rw [List.getElem?_set_self (wq (hI q x hi)),e2,if_pos hx.symm]
  ·have hne:¬ u.try_.Instance=y.Key:=fun h=>by
    have h1:=z13 hs hq
    rw [← h,← hx,z13 hs hi] at h1
    exact hqi (by omega)
   rw [List.getElem?_set_ne (Ne.symm hqi),hI q y hq,e2,if_neg hne,Int.add_zero]
 ·intro l hI
  unfold x0x
  refine yc fun i x hx => ?_
  have:=hI i x hx
  rw [Nat.zero_add,List.length_map,List.take_length] at this
  exact this
def inF (u:Bs→Int) (v:Int) (xs:List zl):List zl:=xs.filter fun x => !decide (v < u x.Key)
def frF (u:Bs→Int) (tr:List qc) (v:Int) (xs:List zl):List zl:=xs.filter fun x => !decide (v < u x.Key) && !(tr.any fun t=>decide (t.Instance=x.Key))
def usF (u:Bs→Int) (tr:List qc) (v:Int) (xs:List zl):List zl:=if 0 < (frF u tr v xs).length then frF u tr v xs else inF u v xs
theorem x1w {u:Bs→Int} {tr:List qc} {v:Int} {xs:List zl} {x:zl} (h:x∈usF u tr v xs):x∈xs:=by
 unfold usF at h
 split at h
 ·exact (List.mem_filter.1 h).1
 ·exact (List.mem_filter.1 h).1
theorem x1x (u:Bs→Int) (tr:List qc) (v:Int) (xs:List zl):(usF u tr v xs).length≤xs.length:=by
 unfold usF
 split
 ·exact List.length_filter_le _ _
 ·exact List.length_filter_le _ _
theorem w0g (l:List Bs) (v:Bs) (h:l.length≤1000000000):z95 l v=some (l.any fun x=>decide (v=x)):=
 y94 (p:=fun x=>some (decide (v=x))) l (fun x=>decide (v=x)) h fun _ _=>rfl
theorem w0f (l:List qc) (x:zl) (h:l.length≤1000000000):z96 l (z7z x)=some (l.any fun t=>decide (t.Instance=x.Key)):=
 y94 (p:=z7z x) l (fun t=>decide (t.Instance=x.Key)) h fun _ _=>rfl
theorem x1v {s:qb} {bench:qn} (hb:bench.l_=s.Instances) (hl:s.Instances.length≤1000) (hk:∀ x,x∈s.Instances→x.Key.length≤1000) {tr:List qc} (ht:tr.length≤1000) (v:Int):z3n s bench tr v=some (usF bench.until_.2 tr v s.Instances):=by
 unfold z3n
 rw [x05 bench v (by rw [hb]; exact hl) (by rw [hb]; exact hk),hb]
 simp only [Option.bind_some]
 have hol:=y78 bench.until_.2 v s.Instances
 refine Yo (ok_g (by omega) ?_)
 refine kg (I:=fun k (q:List zl×List zl)=>q=(frF bench.until_.2 tr v (s.Instances.take k),inF bench.until_.2 v (s.Instances.take k))) s.Instances 0 _ rfl ?_ ?_
 ·rintro j x q _ hj rfl
  have hj:s.Instances[j]?=some x:=by simpa using hj
  have hjl:=wq hj
  have hany:((outC bench.until_.2 v s.Instances).any fun y=>decide (x.Key=y))=decide (v < bench.until_.2 x.Key):=by
   unfold outC
   rw [List.any_map,List.any_filter]
   by_cases h:v < bench.until_.2 x.Key
   ·rw [decide_eq_true h,List.any_eq_true]
    exact ⟨x,List.mem_of_getElem? hj,by simpa using h⟩
   ·rw [decide_eq_false h,List.any_eq_false]
    rintro y hy hc
    simp at hc
    rw [← hc.2] at hc
    exact h hc.1
  have l1:(frF bench.until_.2 tr v (s.Instances.take j)).length≤1000000:=by
   have:=List.length_filter_le (fun x:zl => !decide (v < bench.until_.2 x.Key) && !(tr.any fun t=>decide (t.Instance=x.Key))) (s.Instances.take j)
   rw [List.length_take] at this
   unfold frF; omega
  have l2:(inF bench.until_.2 v (s.Instances.take j)).length≤1000000:=by
   have:=List.length_filter_le (fun x:zl => !decide (v < bench.until_.2 x.Key)) (s.Instances.take j)
   rw [List.length_take] at this
   unfold inF; omega
  have e1:frF bench.until_.2 tr v (s.Instances.take (j+1))=frF bench.until_.2 tr v (s.Instances.take j)++(if (!decide (v < bench.until_.2 x.Key) && !(tr.any fun t=>decide (t.Instance=x.Key)))=true then [x] else []):=z4s _ _ j x hj
  have e2:inF bench.until_.2 v (s.Instances.take (j+1))=inF bench.until_.2 v (s.Instances.take j)++(if (!decide (v < bench.until_.2 x.Key))=true then [x] else []):=z4s _ _ j x hj
  unfold z70
  rw [w0g _ _ (by omega),hany,w0f _ _ (by omega)]
  simp only [Option.bind_some]
  refine wi (fun h => ?_) (fun h=>ok_g ⟨l1,l2⟩ ?_)
  ·refine yc ?_
   show _=(frF bench.until_.2 tr v (s.Instances.take (j+1)),inF bench.until_.2 v (s.Instances.take (j+1)))
   rw [e1,e2,h]
   simp
  ·have h:decide (v < bench.until_.2 x.Key)=false:=by simpa using h
   refine wi (fun h2=>yc ?_) (fun h2=>yc ?_)
   ·show _=(frF bench.until_.2 tr v (s.Instances.take (j+1)),inF bench.until_.2 v (s.Instances.take (j+1)))
    rw [e1,e2,h,h2]
    simp
   ·show _=(frF bench.until_.2 tr v (s.Instances.take (j+1)),inF bench.until_.2 v (s.Instances.take (j+1)))
    have h2:(!(tr.any fun t=>decide (t.Instance=x.Key)))=false:=by simpa using h2
    rw [e1,e2,h,h2]
    simp
 ·rintro q rfl
  unfold z71 usF
  rw [Nat.zero_add,List.take_length]
  refine wi (fun h=>yc ?_) (fun h=>yc ?_)
  ·have h:0 < (frF bench.until_.2 tr v s.Instances).length:=by simpa using h
   rw [if_pos h]
  ·have h:¬ 0 < (frF bench.until_.2 tr v s.Instances).length:=by simpa using h
   rw [if_neg h]
theorem w1k {xs:List zl} (hg:InsG xs) {kk:Int} {o:vo} {L:List yq} {r tt u:Bs→Int} (hS:SR xs kk L r tt u) {way:List qv} (hw:∀ w,w∈way→hasK xs w.try_.Instance=true) (hn:way.length≤1000000)
  {t:List (Int×Bool)} {tr:List qc} (ht:∀ (i:Nat) x,xs[i]?=some x→tsB t (i:Int)=tr.any fun y=>decide (y.Instance=x.Key)) (v:Int) :
  Ok (z7c xs (way.map (tO xs)) ⟨o,L⟩ t v) fun i=>atC xs i (lsF (ldW way) (usF u tr v xs) none):=by
 have hlen:=hg.len
 have hin:∀ (i:Nat) x,xs[i]?=some x→z11 ⟨o,L⟩ v (i:Int)=some (!decide (v < u x.Key)):=fun i x hx=>by
  unfold z11 z9v
  rw [vz,hS.at_ i x hx]
  rfl
 have hfr:∀ (i:Nat) x,xs[i]?=some x→z36 ⟨o,L⟩ v t (i:Int)=some (!decide (v < u x.Key) && !(tr.any fun y=>decide (y.Instance=x.Key))):=fun i x hx=>by
  have:=wq hx
  unfold z36
  rw [hin i x hx]
  simp only [Option.bind_some]
  cases decide (v < u x.Key)
  ·simp only [Bool.not_false,if_true,Bool.true_and]
   rw [if_pos (by omega),ht i x hx]
  ·rfl
 unfold z7c
 refine ok_g (by omega) (yk (x69 hg.srt (by omega) hw hn) fun l hl => ?_)
 refine yk (y81 (fun x => !decide (v < u x.Key) && !(tr.any fun y=>decide (y.Instance=x.Key))) (ldW way) hg.wgt hl (z7e hn) hfr (by omega)) fun i hi => ?_
 have hi:atC xs i (lsF (ldW way) (frF u tr v xs) none):=hi
 unfold usF
 by_cases hp:0 < (frF u tr v xs).length
 ·rw [if_pos hp]
  obtain ⟨y,_,hy⟩:=x67 (ldW way) _ (List.length_pos_iff.1 hp)
  have hi2:=hi
  rw [hy] at hi2
  obtain ⟨j,rfl,_⟩:=hi2
  rw [if_neg (by simp)]
  exact yc hi
 ·rw [if_neg hp]
  have he:frF u tr v xs=[]:=List.length_eq_zero_iff.1 (by omega)
  rw [he] at hi
  have hi:i=-1:=hi
  rw [hi,if_pos (by simp)]
  exact y81 (fun x => !decide (v < u x.Key)) (ldW way) hg.wgt hl (z7e hn) hin (by omega)
theorem x64 (x:zl) {way:List qv} (hn:way.length≤1000000):forL (z57 x) y3k 0 way 0=some (ldW way x.Key):=by
 refine Yo (kg (I:=fun k (q:Int)=>q=ldW (way.take k) x.Key) way 0 0 rfl ?_ ?_)
 ·rintro j u q _ hj rfl
  have hj:way[j]?=some u:=by simpa using hj
  have hjl:=wq hj
  have hr:=z7e (way:=way.take j) (by rw [List.length_take]; omega) x.Key
  have e2:ldW (way.take (j+1)) x.Key=ldW (way.take j) x.Key+if u.try_.Instance=x.Key then 1 else 0:=by
   unfold ldW
   rw [z4s _ way j u hj,List.length_append]
   by_cases h:u.try_.Instance=x.Key <;> simp [h]
  unfold z57
  refine wi (fun h=>yc ?_) (fun h=>yc ?_)
  ·have h:u.try_.Instance=x.Key:=by simpa using h
   show wr _=ldW (way.take (j+1)) x.Key
   rw [qy (by omega),e2,if_pos h]
  ·have h:¬ u.try_.Instance=x.Key:=by simpa using h
   show _=ldW (way.take (j+1)) x.Key
   rw [e2,if_neg h,Int.add_zero]
 ·rintro q rfl
  unfold y3k
  exact yc (by rw [Nat.zero_add,List.take_length])
theorem y82 (n:Bs→Int):∀ (F:List zl) (x:zl),x∈F→ldF (F.map fun y=>(⟨y.Key,n y.Key⟩:jl)) x.Key=n x.Key
 | [],x,h=>by cases h
 | y::F,x,h=>by
  show (if y.Key=x.Key then n y.Key else ldF (F.map _) x.Key)=_
  by_cases hy:y.Key=x.Key
  ·rw [if_pos hy,hy]
  ·rw [if_neg hy]
   rcases List.mem_cons.1 h with rfl | h
   ·exact absurd rfl hy
   ·exact y82 n F x h
theorem x7a {F:List zl} {way:List qv} (hF:F.length≤1000) (hn:way.length≤1000000):forL (z7d way) y3u 0 F []=some (F.map fun y=>⟨y.Key,ldW way y.Key⟩):=by
 refine Yo (kg (I:=fun k (q:List jl)=>q=(F.take k).map fun y=>⟨y.Key,ldW way y.Key⟩) F 0 [] rfl ?_ ?_)
 ·rintro j x q _ hj rfl
  have hj:F[j]?=some x:=by simpa using hj
  have hjl:=wq hj
  unfold z7d
  refine ok_g ⟨hn,by rw [List.length_map,List.length_take]; omega⟩ ?_
  rw [x64 x hn]
  simp only [Option.bind_some]
  refine yc ?_
  show _=(F.take (j+1)).map _
  rw [List.take_add_one,hj,List.map_append]
  rfl
 ·rintro q rfl
  unfold y3u
  exact yc (by rw [Nat.zero_add,List.take_length])
end Go.Proofs.YtgdijjmdfcgifaaGreat
