/- CallersFound: the plain law. -/
import Derived.Test.YtndabcepiekebaaGreatDoorHxZk
import Derived.Test.YtndabcepiekebaaGreatDoorYdbZk
import Derived.Test.YtndabcepiekebaaGreatDoorCxZk
import Derived.Test.YtndabcepiekebaaGreatDoorTaZk
namespace Go.Proofs.YtndabcepiekebaaGreatDoor
set_option linter.unusedVariables false
set_option linter.unusedSimpArgs false
set_option linter.unusedSectionVars false
set_option maxRecDepth 20000
structure RvB (l:List qf):Prop where
 len:l.length≤1000
 id:∀ x,x∈l→x.Id.length≤1000
def gRv (x:qf) (late:Bool):Int:=if (!keyP x.Id)=true then 5 else if late=true then 7 else if (outP x.At 0 x.Until || decide (345686400000 < x.Until))=true then 1 else 0
def rvF (l:List qf):Int:=if 1000 < l.length then 2 else chR (fun x:qf=>x.Id) gRv l []
theorem w6o (x:qf):leB x.Id []=false∨∀ a b,gRv x a=gRv x b:=by
 cases h:keyP x.Id
 ·right; intro a b; simp [gRv,h]
 ·left; exact w2o h
theorem w63 (l:List qf) (hl:RvB l):z9r l=some (rvF l):=by
 have hn:=hl.len
 unfold z9r rvF
 by_cases h1:1000 < l.length
 ·omega
 ·rw [if_neg (by simp; omega),if_neg h1,if_pos (by omega)]
  have h:=x6m (key:=fun x:qf=>x.Id) (g:=gRv) (body:=fun k x s=>y09 k x s) (fin:=fun s=>y5d s) (r:=some 0) (fun _=>rfl) l 0 [] fun j x s hx=>by
   unfold y09 gRv
   rw [xt x.Id (by have:=hl.id x hx; omega),z6f]
   simp only [Option.bind_some,Bool.not_not]
   show (if (!keyP x.Id)=true then _ else if leB x.Id s=true then _ else _)=_
   cases keyP x.Id
   ·rfl
   ·cases leB x.Id s
    ·cases (outP x.At 0 x.Until || decide (345686400000 < x.Until)) <;> rfl
    ·rfl
  rw [h]
  by_cases h2:chR (fun x:qf=>x.Id) gRv l []=0
  ·rw [if_neg (not_not_intro h2),h2]
  ·rw [if_pos h2]
theorem w8c (l:List qf) (hl:RvB l):z84 l=some (rvF l):=by
 have hn:=hl.len
 unfold z84 rvF
 by_cases h1:1000 < l.length
 ·omega
 ·rw [if_neg (by simp; omega),if_neg h1,if_pos (by omega)]
  have h:=x6n (key:=fun x:qf=>x.Id) (g:=gRv) w6o l (body:=fun k x (s:Unit)=>z7v l k x) (fin:=fun (s:Unit)=>y2o) (r:=some 0) rfl l 0 [] (.inl ⟨rfl,rfl⟩) (fun j=>by rw [Nat.zero_add]) fun j x hx=>by
   have hk:=jw hx
   have hJ:∀ b,z4c x b=if b=true then some (.inr 7) else if (outP x.At 0 x.Until || decide (345686400000 < x.Until))=true then some (.inr 1) else some (.inl ()):=fun b=>rfl
   unfold z7v gRv
   rw [xw x.Id (by have:=hl.id x (List.mem_of_getElem? hx); omega)]
   simp only [Option.bind_some,hJ]
   have hlate:xd (fun x:qf=>x.Id) l j x=xd (fun x:qf=>x.Id) l j x:=rfl
   cases keyP x.Id
   ·rfl
   ·simp only [Bool.not_true,Bool.false_eq_true,if_false]
    by_cases h0:0 < j
    ·obtain ⟨y,hy⟩:∃ y,l[j - 1]?=some y:=⟨_,List.getElem?_eq_getElem (by omega)⟩
     have e3:xd (fun x:qf=>x.Id) l j x=leB x.Id y.Id:=by simp [xd,h0,hy]
     have e2:decide (0 < (j:Int))=true:=by simpa using h0
     rw [e3,e2,x62 h0,hy]
     simp only [if_true,Option.bind_some]
     show (if leB x.Id y.Id=true then _ else _)=_
     cases leB x.Id y.Id
     ·cases (outP x.At 0 x.Until || decide (345686400000 < x.Until)) <;> rfl
     ·rfl
    ·have e3:xd (fun x:qf=>x.Id) l j x=false:=by simp [xd,h0]
     have e2:decide (0 < (j:Int))=false:=by simpa using h0
     rw [e3,e2]
     simp only [Bool.false_eq_true,if_false]
     cases (outP x.At 0 x.Until || decide (345686400000 < x.Until)) <;> rfl
  rw [h]
  by_cases h2:chR (fun x:qf=>x.Id) gRv l []=0
  ·rw [if_neg (not_not_intro h2),h2]
  ·rw [if_pos h2]
theorem y44 (p:UInt8→Bool):∀ l:Bs,l.dropWhile p=[]↔l.all p=true
 | []=>by simp
 | c::l=>by
  rw [List.dropWhile_cons,List.all_cons]
  cases h:p c
  ·simp
  ·simpa using y44 p l
theorem x5e (p:UInt8→Bool):∀ (l t:Bs) (c:UInt8),l.dropWhile p=c::t→p c=false
 | [],_,_,h=>by cases h
 | d::l,t,c,h=>by
  rw [List.dropWhile_cons] at h
  cases hd:p d
  ·rw [hd] at h
   have:d=c:=by simpa using (List.cons.inj h).1
   rw [← this]; exact hd
  ·rw [hd] at h
   exact x5e p l t c (by simpa using h)
theorem w59 (s:Bs):(Lib.trimS s xdL=[])↔s.all isX=true:=by
 unfold Lib.trimS Lib.trimLeftS Lib.trimRightS
 show (List.dropWhile isX (List.dropWhile isX s.reverse).reverse=[])↔_
 rw [y44,List.all_reverse]
 constructor
 ·intro h
  cases hd:List.dropWhile isX s.reverse with
  | nil =>
   have:=(y44 isX s.reverse).1 hd
   rwa [List.all_reverse] at this
  | cons c t =>
   have h1:=x5e isX _ _ _ hd
   rw [hd] at h
   simp [h1] at h
 ·intro h
  rw [(y44 isX s.reverse).2 (by rw [List.all_reverse]; exact h)]; rfl
def smB (s:Bs):Bool:=decide (s.length=16) && s.all isX
theorem w52 (s:Bs):z8u s=some (smB s):=by
 unfold z8u z36 smB
 by_cases h:s.length=16
 ·rw [if_pos (by simp; omega)]
  unfold y31
  rw [if_pos ⟨⟨by omega,by decide⟩,by decide⟩]
  simp only [Option.bind_some]
  have ht:=w59 s
  cases hx:s.all isX
  ·have:¬ Lib.trimS s xdL=[]:=fun h=>by rw [ht.1 h] at hx; cases hx
   simp [h,this]
  ·simp [h,ht.2 hx]
 ·rw [if_neg (by simp; omega)]
  simp [h]
theorem x6h (a b:Bs):y0j a b=some (cmpL a b):=by
 unfold y0j y0i
 simp only [ne_eq,not_true_eq_false,decide_false,Option.bind_some,Bool.false_eq_true,if_false]
 rw [y4g]
 have hz:=z7e a b
 rcases x6g a b with h | h | h
 ·simp [h]
 ·have:=hz.1 h; subst this; simp [h]
 ·have:a≠b:=fun e=>by rw [hz.2 e] at h; cases h
  simp [h,this]
theorem w75 (a b c d:Bs):z89 [a,b] [c,d]=some (if cmpL a c≠0 then cmpL a c else cmpL b d):=by
 unfold z89
 rw [if_pos (by simp)]
 have h0:z1j [c,d] 0 a=if decide (cmpL a c≠0)=true then some (.inr (cmpL a c)) else some (.inl ()):=by
  unfold z1j
  simp [x6h]
 have h1:z1j [c,d] 1 b=if decide (cmpL b d≠0)=true then some (.inr (cmpL b d)) else some (.inl ()):=by
  unfold z1j
  simp [x6h]
 have hE:y26 [a,b] [c,d]=some 0:=rfl
 simp only [forL,h0,Nat.zero_add,h1,hE]
 by_cases e0:cmpL a c=0
 ·by_cases e1:cmpL b d=0 <;> simp [e0,e1,after]
 ·simp [e0,after]
def z7h (y x:yr):Bool:=Op.bytesLess x.App y.App || (decide (x.App=y.App) && leB x.Sum y.Sum)
theorem w8m (y x:yr):decide (0≤(if cmpL y.App x.App≠0 then cmpL y.App x.App else cmpL y.Sum x.Sum))=z7h y x:=by
 unfold z7h leB
 rw [y4g,y4g,y9m y.App x.App,y9m y.Sum x.Sum]
 have hz:=z7e y.App x.App
 have hz2:=z7e y.Sum x.Sum
 by_cases e:y.App=x.App
 ·have e0:=hz.2 e
  by_cases e2:y.Sum=x.Sum
  ·simp [e,hz2.2 e2,e2,(z7e x.App x.App).2 rfl,(z7e x.Sum x.Sum).2 rfl]
  ·have n2:cmpL y.Sum x.Sum≠0:=fun h=>e2 (hz2.1 h)
   have e3:¬ x.Sum=y.Sum:=fun h=>e2 h.symm
   rw [if_neg (not_not_intro e0),e0]
   simp only [Int.neg_zero,Int.lt_irrefl,decide_false,Bool.false_or]
   have e4:x.App=y.App:=e.symm
   simp only [e4,decide_true,Bool.true_and]
   have e5:(x.Sum == y.Sum)=false:=by simpa using e3
   rw [e5]
   by_cases p:0≤cmpL y.Sum x.Sum
   ·rw [decide_eq_true p,decide_eq_true (show - cmpL y.Sum x.Sum < 0 by omega)]
    simp
   ·rw [decide_eq_false p,decide_eq_false (show ¬ - cmpL y.Sum x.Sum < 0 by omega)]
    simp
 ·have n0:cmpL y.App x.App≠0:=fun h=>e (hz.1 h)
  have e3:¬ x.App=y.App:=fun h=>e h.symm
  rw [if_pos n0]
  by_cases p:0≤cmpL y.App x.App
  ·rw [decide_eq_true p,decide_eq_true (show - cmpL y.App x.App < 0 by omega)]
   rfl
  ·rw [decide_eq_false p,decide_eq_false (show ¬ - cmpL y.App x.App < 0 by omega),decide_eq_false e3]
   rfl
structure HoB (l:List yr):Prop where
 len:l.length≤20
 key:∀ x,x∈l→x.App.length≤1000∧x.Sum.length≤1000∧Sh x.Scopes
 few:∀ x,x∈l→x.Scopes.length≤60
def Zj (l:List yr) (k:Nat) (x:yr):Bool:=decide (0 < k) && match l[k - 1]? with | some y=>z7h y x | none=>false
def ho1 (l:List yr) (k:Nat) (x:yr):Int:=
 if (!keyP x.App)=true then 5 else if (!smB x.Sum)=true then 3 else if Zj l k x=true then 7 else if scF x.Scopes≠0 then scF x.Scopes
 else if (outP x.From 0 x.To || decide (345686400000 < x.To))=true then 1 else 0
def hoF (l:List yr):Int:=if 500 < l.length then 2 else feI (ho1 l) 0 l
theorem w6j (l:List yr) (hl:HoB l) (k:Nat) (x:yr) (hx:l[k]?=some x):z8w l (k:Int)=some (ho1 l k x):=by
 have hk:=jw hx
 have hb:=hl.key x (List.mem_of_getElem? hx)
 have hn:=hl.len
 have hJ:∀ b,Ys x b=some (if b=true then 7 else if scF x.Scopes≠0 then scF x.Scopes else if (outP x.From 0 x.To || decide (345686400000 < x.To))=true then 1 else 0):=by
  intro b
  unfold Ys
  rw [x6k x.Scopes hb.2.2,y7p]
  simp only [Option.bind_some]
  cases b
  ·by_cases h2:scF x.Scopes=0
   ·simp only [h2,Bool.false_eq_true,if_false,ne_eq,not_true_eq_false,decide_false]
    cases (outP x.From 0 x.To || decide (345686400000 < x.To)) <;> rfl
   ·simp [h2]
  ·rfl
 unfold z8w ho1
 rw [Qt,hx]
 simp only [Option.bind_some]
 rw [xw x.App (by omega),w52]
 simp only [Option.bind_some,hJ]
 cases keyP x.App
 ·rfl
 ·cases smB x.Sum
  ·rfl
  ·simp only [Bool.not_true,Bool.false_eq_true,if_false]
   by_cases h0:0 < k
   ·obtain ⟨y,hy⟩:∃ y,l[k - 1]?=some y:=⟨_,List.getElem?_eq_getElem (by omega)⟩
    have e1:at? l (wr ((k:Int) - 1))=some y:=by
     rw [vh (by omega),show (k:Int) - 1=((k - 1:Nat):Int) by omega,Qt]; exact hy
    have e3:Zj l k x=z7h y x:=by simp [Zj,h0,hy]
    rw [if_pos (by simpa using h0),e1,e3]
    simp only [Option.bind_some]
    unfold z7h
    show (if Op.bytesLess x.App y.App=true then _ else if decide (x.App=y.App)=true then some (if leB x.Sum y.Sum=true then _ else _) else _)=_
    cases Op.bytesLess x.App y.App
    ·cases decide (x.App=y.App)
     ·rfl
     ·rfl
    ·rfl
   ·have e3:Zj l k x=false:=by simp [Zj,h0]
    rw [if_neg (by simpa using h0),e3]
    rfl
theorem w6i (l:List yr) (hl:HoB l) (k:Nat) (x:yr) (hx:l[k]?=some x):z6s l k x=if ho1 l k x≠0 then some (.inr (ho1 l k x)) else some (.inl ()):=by
 have hk:=jw hx
 have hb:=hl.key x (List.mem_of_getElem? hx)
 have hn:=hl.len
 have hJ:∀ b,z0m x b=if b=true then some (.inr 7) else if scF x.Scopes≠0 then some (.inr (scF x.Scopes)) else if (outP x.From 0 x.To || decide (345686400000 < x.To))=true then some (.inr 1) else some (.inl ()):=by
  intro b
  unfold z0m
  rw [x5u x.Scopes hb.2.2,z6f]
  simp only [Option.bind_some,Bool.not_not]
  cases b
  ·by_cases h2:scF x.Scopes=0
   ·simp [h2]
   ·simp [h2]
  ·rfl
 have h2:∀ b,z0n l k x b=if b=true then some (.inr 3) else z0m x (Zj l k x):=by
  intro b
  unfold z0n
  cases b
  ·simp only [Bool.false_eq_true,if_false]
   by_cases h0:0 < k
   ·obtain ⟨y,hy⟩:∃ y,l[k - 1]?=some y:=⟨_,List.getElem?_eq_getElem (by omega)⟩
    have e3:Zj l k x=z7h y x:=by simp [Zj,h0,hy]
    rw [if_pos (by simpa using h0),x62 h0,hy,e3]
    simp only [Option.bind_some,w75,w8m]
   ·have e3:Zj l k x=false:=by simp [Zj,h0]
    rw [if_neg (by simpa using h0),e3]
  ·rfl
 have hgo:z6s l k x=if (!keyP x.App)=true then some (.inr 5) else z0n l k x (!smB x.Sum):=by
  unfold z6s
  rw [xt x.App (by omega),z8i x.Sum _ (by omega)]
  simp only [Option.bind_some]
  cases keyP x.App
  ·rfl
  ·simp only [Bool.not_true,Bool.false_eq_true,if_false]
   unfold smB
   by_cases h16:x.Sum.length=16
   ·rw [if_neg (by simp; omega),h16]
    rfl
   ·rw [if_pos (by simp; omega)]
    simp [h16]
 rw [hgo,h2,hJ]
 unfold ho1
 cases keyP x.App
 ·rfl
 ·cases smB x.Sum
  ·rfl
  ·cases Zj l k x
   ·by_cases h3:scF x.Scopes=0
    ·simp only [h3,Bool.not_true,Bool.false_eq_true,if_false,ne_eq,not_true_eq_false]
     cases (outP x.From 0 x.To || decide (345686400000 < x.To)) <;> rfl
    ·simp [h3]
   ·rfl
theorem w8e (l:List yr) (hl:HoB l):z86 l=some (hoF l):=by
 have hn:=hl.len
 unfold z86 hoF
 by_cases h1:500 < l.length
 ·rw [if_pos (by simp; omega),if_pos h1]
 ·rw [if_neg (by simp; omega),if_neg h1,if_pos (by omega)]
  refine z0r rfl l 0 fun j x _ hx => ?_
  have hx:l[j]?=some x:=by simpa using hx
  unfold y2p
  rw [w6j l hl j x hx]
  simp only [Option.bind_some]
  by_cases h2:ho1 l j x=0 <;> simp [h2]
theorem w65 (l:List yr) (hl:HoB l):z9x l=some (hoF l):=by
 have hn:=hl.len
 unfold z9x hoF
 by_cases h1:500 < l.length
 ·rw [if_pos (by simp; omega),if_pos h1]
 ·rw [if_neg (by simp; omega),if_neg h1,if_pos (by omega)]
  exact z0r rfl l 0 fun j x _ hx=>w6i l hl j x (by simpa using hx)
structure KeB (k:wo):Prop where
 iss:k.Issuer.length≤1000
 aud:k.Audience.length≤1000
 sg:SgB k.Signers
 rv:RvB k.Revoked
 ho:HoB k.Holders
def kpF (k:wo):Int:=if (!keyP k.Issuer || !keyP k.Audience)=true then 5 else if sgF k.Signers≠0 then sgF k.Signers else if rvF k.Revoked≠0 then rvF k.Revoked else if hoF k.Holders≠0 then hoF k.Holders else if outP k.Skew 0 600000=true then 1 else 0
theorem w2z {k:wo} (h:kpF k=0):sgF k.Signers=0:=by
 unfold kpF at h
 split at h
 ·cases h
 ·split at h
  ·rename_i h1; exact absurd h h1
  ·rename_i h1; exact Decidable.of_not_not h1
theorem w8d (k:wo) (hk:KeB k):z85 k=some (kpF k):=by
 have hJ:∀ b,z1c k b=some (if b=true then 5 else if sgF k.Signers≠0 then sgF k.Signers else if rvF k.Revoked≠0 then rvF k.Revoked else if hoF k.Holders≠0 then hoF k.Holders else if outP k.Skew 0 600000=true then 1 else 0):=by
  intro b
  unfold z1c
  rw [x6j _ hk.sg,w8c _ hk.rv,w8e _ hk.ho,y7p]
  simp only [Option.bind_some]
  cases b
  ·by_cases h1:sgF k.Signers=0
   ·by_cases h2:rvF k.Revoked=0
    ·by_cases h3:hoF k.Holders=0
     ·cases h4:outP k.Skew 0 600000 <;> simp [h1,h2,h3]
     ·simp [h1,h2,h3]
    ·simp [h1,h2]
   ·simp [h1]
  ·rfl
 unfold z85 kpF
 rw [xw _ (by have:=hk.iss; omega),xw _ (by have:=hk.aud; omega)]
 simp only [Option.bind_some,hJ]
 cases keyP k.Issuer
 ·rfl
 ·cases keyP k.Audience <;> rfl
theorem w64 (k:wo) (hk:KeB k):z9v k=some (kpF k):=by
 have hL:∀ j e,y1a j e=if e≠0 then some (.inr e) else some (.inl ()):=fun j e=>by
  unfold y1a
  by_cases h:e=0 <;> simp [h]
 have hJ:∀ b,z2u k b=some (if b=true then 5 else if sgF k.Signers≠0 then sgF k.Signers else if rvF k.Revoked≠0 then rvF k.Revoked else if hoF k.Holders≠0 then hoF k.Holders else if outP k.Skew 0 600000=true then 1 else 0):=by
  intro b
  unfold z2u
  rw [x5t _ hk.sg,w63 _ hk.rv,w65 _ hk.ho]
  simp only [Option.bind_some,forL,hL]
  unfold y5g
  rw [z6f]
  simp only [Option.bind_some,Bool.not_not]
  cases b
  ·rw [if_neg (by simp),if_pos (by simp)]
   by_cases h1:sgF k.Signers=0
   ·by_cases h2:rvF k.Revoked=0
    ·by_cases h3:hoF k.Holders=0
     ·cases h4:outP k.Skew 0 600000 <;> simp [h1,h2,h3,after]
     ·simp [h1,h2,h3,after]
    ·simp [h1,h2,after]
   ·simp [h1,after]
  ·rfl
 unfold z9v kpF
 rw [xt _ (by have:=hk.iss; omega),xt _ (by have:=hk.aud; omega)]
 simp only [Option.bind_some,hJ]
 cases keyP k.Issuer
 ·rfl
 ·cases keyP k.Audience <;> rfl
theorem w05 {k:Int} {s:zt} (h:SB k s) (hk:k≤100000):Ok (y0b s) fun r=>RvB r.1∧SB (k+20) r.2:=by
 unfold y0b
 refine ok_g (by simp) (z4l (fun (j:Nat) (q:(List Int)×Int×(List qf))=>SB (k+3 * (j:Int)) ⟨q.1,q.2.1⟩∧q.2.2.length≤j∧∀ x,x∈q.2.2→x.Id.length≤1000) _ 0 _ ⟨by simpa using h,by simp,by simp⟩ ?_ ?_)
 ·rintro j x ⟨c,d,l⟩ _ hx ⟨q1,q2,q3⟩
  simp only at q1 q2 q3
  have hx:([[116,48],[116,49],[116,50]]:List Bs)[j]?=some x:=by simpa using hx
  have hj:=jw hx
  have hxl:=ue (List.mem_of_getElem? hx) (by decide)
  simp only [List.length_cons,List.length_nil] at hj
  unfold y5n z6y
  refine yc (ua q1 (by omega) _ (by omega)) fun r24 h24=>ww (fun _ => ?_) (fun _=>yx ⟨h24.mono (by omega),by simp only; omega,q3⟩)
  refine yc (um h24 (by omega) _ ⟨by simp,by simp⟩) fun r27 h27=>yc (um h27.2 (by omega) _ ⟨by simp,by simp⟩) fun r29 h29=>ok_g (by simp only; omega) (yx ⟨h29.2.mono (by omega),by simp; omega,fun y hy => ?_⟩)
  rcases List.mem_append.1 hy with hy | hy
  ·exact q3 y hy
  ·simp only [List.mem_singleton] at hy
   subst hy
   show x.length≤1000
   omega
 ·rintro ⟨c,d,l⟩ ⟨q1,q2,q3⟩
  simp only [List.length_cons,List.length_nil] at q1 q2 q3
  unfold y5o z6z
  refine yc (ua q1 (by omega) _ (by omega)) fun r9 h9=>ww (fun _ => ?_) (fun _=>yx ⟨⟨by simp only; omega,q3⟩,h9.mono (by omega)⟩)
  refine yc (jv h9 (by omega) _ ⟨by simp,by simp⟩) fun r12 h12=>yc (z4m h12.2 (by omega) _ _ (by omega)) fun r14 h14=>yc (z4m h14.2 (by omega) _ _ (by omega)) fun r16 h16=>ok_g (by simp only; omega) (yx ⟨⟨by simp; omega,fun y hy => ?_⟩,h16.2.mono (by omega)⟩)
  rcases List.mem_append.1 hy with hy | hy
  ·exact q3 y hy
  ·simp only [List.mem_singleton] at hy
   subst hy
   show r12.1.length≤1000
   have:=ue h12.1 (by decide)
   omega
theorem x9z (l:List Bs) (h:l.length≤1000000):Zi l=some (Yy l):=by
 unfold Zi
 rw [if_pos (by omega)]
theorem w6h {k:Int} {s:zt} (h:SB k s) (hk:k≤90000):Ok (y0e s) fun r=>HoB r.1∧SB (k+120) r.2:=by
 unfold y0e
 refine ok_g (by simp) (z4l (fun (j:Nat) (q:(List Int)×Int×(List yr))=>SB (k+40 * (j:Int)) ⟨q.1,q.2.1⟩∧q.2.2.length≤2 * j∧∀ x,x∈q.2.2→(x.App.length≤1000∧x.Sum.length≤1000∧Sh x.Scopes)∧x.Scopes.length≤60) _ 0 _ ⟨by simpa using h,by simp,by simp⟩ ?_ ?_)
 ·rintro j x ⟨c,d,l⟩ _ hx ⟨q1,q2,q3⟩
  simp only at q1 q2 q3
  have hx:([[97,112,112,49],[97,112,112,50]]:List Bs)[j]?=some x:=by simpa using hx
  have hj:=jw hx
  have hxl:=ue (List.mem_of_getElem? hx) (by decide)
  simp only [List.length_cons,List.length_nil] at hj
  unfold y5r
  refine ok_g (by simp) (z4l (fun (i:Nat) (q:(List Int)×Int×(List Bs))=>SB (k+40 * (j:Int)+(i:Int)) ⟨q.1,q.2.1⟩∧q.2.2.length≤i∧∀ x,x∈q.2.2→x.length≤1000) _ 0 _ ⟨by simpa using q1,by simp,by simp⟩ ?_ ?_)
  ·rintro i y ⟨c1,d1,l1⟩ _ hy ⟨p1,p2,p3⟩
   simp only at p1 p2 p3
   have hy:([[107,101,121,45,49],[107,101,121,45,50]]:List Bs)[i]?=some y:=by simpa using hy
   have hi:=jw hy
   have hyl:=ue (List.mem_of_getElem? hy) (by decide)
   simp only [List.length_cons,List.length_nil] at hi
   unfold y5q z62
   refine yc (ua p1 (by omega) _ (by omega)) fun r53 h53=>ww (fun _ => ?_) (fun _=>yx ⟨h53.mono (by omega),by simp only; omega,p3⟩)
   refine yc (y2u _ _ (by simp) (by omega)) fun r56 h56=>ok_g (by simp only; omega) (yx ⟨h53.mono (by omega),by simp; omega,fun z hz => ?_⟩)
   rcases List.mem_append.1 hz with hz | hz
   ·exact p3 z hz
   ·simp only [List.mem_singleton] at hz
    subst hz
    omega
  ·rintro ⟨c1,d1,l1⟩ ⟨p1,p2,p3⟩
   simp only [List.length_cons,List.length_nil] at p1 p2 p3
   unfold y5t
   rw [x9z l1 (by omega)]
   simp only [Option.bind_some]
   have hsl:=x1l l1
   refine ok_g (by omega) (z8j (fun (i:Nat) (q:(List Int)×Int×(List yr))=>SB (k+40 * (j:Int)+2+8 * (i:Int)) ⟨q.1,q.2.1⟩∧q.2.2.length≤2 * j+i∧∀ x,x∈q.2.2→(x.App.length≤1000∧x.Sum.length≤1000∧Sh x.Scopes)∧x.Scopes.length≤60) _ 0 _ ⟨by simpa using p1,by simpa using q2,q3⟩ ?_ ?_)
   ·rintro i ⟨c2,d2,l2⟩ _ hi ⟨n1,n2,n3⟩
    simp only at n1 n2 n3
    unfold y5p
    have hi:i < (Yy l1).length:=by omega
    rw [List.getElem?_eq_getElem hi]
    simp only [Option.bind_some]
    have hmem:=(x1k l1 _).1 (List.getElem_mem hi)
    generalize (Yy l1)[i]=z at hmem
    have hz:=p3 z hmem
    refine yc (um n1 (by omega) _ ⟨by simp,by simp⟩) fun r44 h44=>yc (y7k h44.2 (by omega)) fun r46 h46=>yc (um h46.2 (by omega) _ ⟨by simp,by simp⟩) fun r48 h48=>ok_g (by omega) (yx ⟨h48.2.mono (by omega),by simp; omega,fun y hy => ?_⟩)
    rcases List.mem_append.1 hy with hy | hy
    ·exact n3 y hy
    ·simp only [List.mem_singleton] at hy
     subst hy
     exact ⟨⟨by show x.length≤1000; omega,hz,by have:=h46.1.1; show r46.1.length≤1000000; omega,fun w hw=>by have:=h46.1.2 w hw; omega⟩,by have:=h46.1.1; show r46.1.length≤60; omega⟩
   ·rintro ⟨c2,d2,l2⟩ ⟨n1,n2,n3⟩
    simp only at n1 n2 n3
    unfold y5s
    exact yx ⟨n1.mono (by omega),by simp only; omega,n3⟩
 rintro ⟨c,d,l⟩ ⟨q1,q2,q3⟩
 simp only [List.length_cons,List.length_nil] at q1 q2 q3
 unfold y5u z63
 refine yc (ua q1 (by omega) _ (by omega)) fun r9 h9=>ww (fun _ => ?_) (fun _=>yx ⟨⟨by simp only; omega,fun y hy=>(q3 y hy).1,fun y hy=>(q3 y hy).2⟩,h9.mono (by omega)⟩)
 refine yc (jv h9 (by omega) _ ⟨by simp,by simp⟩) fun r12 h12=>yc (jv h12.2 (by omega) _ ⟨by simp,by simp⟩) fun r14 h14=>yc (w0h h14.2 (by omega)) fun r16 h16=>yc (z4m h16.2 (by omega) _ _ (by omega)) fun r18 h18=>ok_g (by simp only; omega) ?_
 have l12:=ue h12.1 (by decide)
 have l14:r14.1.length≤1000:=by
  have:=h14.1
  simp only [List.mem_cons,List.not_mem_nil,or_false] at this
  rcases this with h | h | h <;> rw [h] <;> decide
 have hall:∀ y,y∈l++[yr.mk r12.1 r14.1 r16.1 0 r18.1]→(y.App.length≤1000∧y.Sum.length≤1000∧Sh y.Scopes)∧y.Scopes.length≤60:=fun y hy=>by
  rcases List.mem_append.1 hy with hy | hy
  ·exact q3 y hy
  ·simp only [List.mem_singleton] at hy
   subst hy
   exact ⟨⟨by show r12.1.length≤1000; omega,l14,h16.1.2⟩,by
    show r16.1.length≤60
    rcases h16.1.1 with h | h
    ·omega
    ·rw [h]; simp⟩
 exact yx ⟨⟨by simp; omega,fun y hy=>(hall y hy).1,fun y hy=>(hall y hy).2⟩,h18.2.mono (by omega)⟩
theorem w24 {k:Int} {s:zt} (h:SB k s) (hk:k≤80000):Ok (y0d s) fun r=>KeB r.1∧SB (k+200) r.2:=by
 unfold y0d
 refine yc (x92 h (by omega)) fun r2 h2=>yc (w05 h2.2 (by omega)) fun r4 h4=>yc (w6h h4.2 (by omega)) fun r6 h6=>yc (um h6.2 (by omega) _ ⟨by simp,by simp⟩) fun r8 h8=>yc (ua h8.2 (by omega) _ (by omega)) fun r10 h10 => ?_
 unfold z61
 refine ww (fun _ => ?_) (fun _=>yx ⟨⟨by simp,by simp,h2.1,h4.1,h6.1⟩,h10.mono (by omega)⟩)
 refine yc (jv h10 (by omega) _ ⟨by simp,by simp⟩) fun r13 h13=>yc (jv h13.2 (by omega) _ ⟨by simp,by simp⟩) fun r15 h15=>yc (z4m h15.2 (by omega) _ _ (by omega)) fun r17 h17=>yx ⟨⟨?_,?_,h2.1,h4.1,h6.1⟩,h17.2.mono (by omega)⟩
 ·show r13.1.length≤1000
  have:=ue h13.1 (by decide)
  omega
 ·show r15.1.length≤1000
  have:=ue h15.1 (by decide)
  omega
theorem w71 (l:List Bs) (v:Bs) (h:l.length≤1000000000):Wz l v=some (l.any fun x=>decide (v=x)):=
 z3k l (p:=fun x=>some (decide (v=x))) (fun x=>decide (v=x)) h fun _ _=>rfl
theorem w88 {k:wo} (hk:KeB k) (h0:kpF k=0) (t:Bs) (ht:t.length≤400000) (v:Int):∃ r,z5p k t v=some r∧ClB r.1∧z8z k t v=some r:=by
 obtain ⟨o,o1,o2,o3⟩:=w1x hk.sg t ht v
 rw [if_neg (not_not_intro (w2z h0))] at o3
 have J1:∀ b,∃ r,z0p k v o b=some r∧ClB r.1∧Wi k v o b=some r:=by
  intro b
  have hc:z45 k.Revoked (fun (a0:qf)=>z8y a0 o.1 v)=some (k.Revoked.any fun r1=>((decide (r1.Id=o.1.Id)) || (decide (r1.Id=o.1.Parent))) && (decide (r1.At≤v))):=
   z3k k.Revoked _ (by have:=hk.rv.len; omega) fun x _=>rfl
  have hd:z45 k.Revoked (fun (a0:qf)=>z93 a0 o.1 v)=some (k.Revoked.any fun r1=>((decide (r1.Id=o.1.Id)) || (decide (r1.Id=o.1.Parent))) && (decide (r1.At≤v))):=
   z3k k.Revoked _ (by have:=hk.rv.len; omega) fun x _=>rfl
  unfold z0p Wi
  rw [hc,hd]
  simp only [Option.bind_some]
  generalize (k.Revoked.any fun r1=>((decide (r1.Id=o.1.Id)) || (decide (r1.Id=o.1.Parent))) && (decide (r1.At≤v)))=c
  generalize ((decide (v < (wr (o.1.From - k.Skew)))) || (decide ((wr (o.1.To+k.Skew))≤v)))=d
  cases b
  ·cases d
   ·cases c
    ·exact ⟨_,rfl,o2,rfl⟩
    ·exact ⟨_,rfl,ke,rfl⟩
   ·exact ⟨_,rfl,ke,rfl⟩
  ·exact ⟨_,rfl,ke,rfl⟩
 unfold z5p z8z
 rw [o1,o3]
 simp only [Option.bind_some]
 rw [w71 _ _ (by have:=o2.aud.1; omega)]
 simp only [Option.bind_some]
 cases decide (o.2≠0)
 ·simp only [Bool.false_eq_true,if_false]
  cases decide (o.1.Issuer≠k.Issuer)
  ·simp only [Bool.false_eq_true,if_false]
   cases decide (0 < (o.1.Audience.length:Int))
   ·simp only [Bool.false_eq_true,if_false]
    exact J1 _
   ·simp only [if_true]
    exact J1 _
  ·simp only [if_true]
   exact J1 _
 ·exact ⟨_,rfl,ke,rfl⟩
def tokL:Bs:=[97,98,99,100,101,102,103,104,105,106,107,108,109,110,111,112,113,114,115,116,117,118,119,120,121,122,65,66,67,68,69,70,71,72,73,74,75,76,77,78,79,80,81,82,83,84,85,86,87,88,89,90,48,49,50,51,52,53,54,55,56,57,33,35,36,37,38,39,42,43,45,46,94,95,96,124,126]
def tokB (s:Bs):Bool:=s.all (fun c=>tokL.contains c) && (decide (s≠[]) && decide ((s.length:Int)≤100))
theorem x77 (c:UInt8):z9b (c.toNat:Int)=some (tokL.contains c):=by
 have:=xl (fun c=>decide (z9b (c.toNat:Int)=some (tokL.contains c))) (by decide +kernel) c
 exact of_decide_eq_true this
theorem x48 (s:Bs) (h:s.length≤1000000000):z5a s=some (tokB s):=by
 unfold z5a
 rw [if_pos h,uv (p:=fun _ c=>tokL.contains c) (e:=(decide (s≠[]) && decide ((s.length:Int)≤100))) (r0:=false) rfl s 0 (fun j x _ _ => ?_),z0u]
 ·unfold tokB
  cases s.all fun c=>tokL.contains c <;> rfl
 ·unfold y3u
  rw [x77]
  simp only [Option.bind_some]
  cases tokL.contains x <;> rfl
theorem x0z (s:Bs) (h:s.length≤1000000000):z5g s=some (tokB s):=by
 unfold z5g z6k
 rw [z6f]
 simp only [Option.bind_some]
 have ho:=z8i s tokL h
 have hc:(!outP (s.length:Int) 1 100)=(decide (s≠[]) && decide ((s.length:Int)≤100)):=by
  rw [y7q]
  cases s with
  | nil=>rfl
  | cons a l=>simp; omega
 rw [hc]
 unfold tokB
 cases (decide (s≠[]) && decide ((s.length:Int)≤100))
 ·simp
 ·simp only [if_true,Bool.and_true]
  show (xc s tokL).bind _=_
  rw [ho]; rfl
def rgB (s:Bs) (lo hi:Int):Bool:=s.all fun c => !outP (c.toNat:Int) lo hi
theorem y0t (s:Bs) (lo hi:Int) (h:s.length≤1000000000):z0a s lo hi=some (rgB s lo hi):=by
 unfold z0a y3q
 rw [if_pos h,uv (p:=fun _ c => !outP (c.toNat:Int) lo hi) (e:=true) (r0:=false) rfl s 0 (fun j x _ _ => ?_),z0u]
 ·unfold rgB
  cases s.all fun c => !outP (c.toNat:Int) lo hi <;> rfl
 ·unfold y3p z4o outP
  by_cases h1:(x.toNat:Int) < lo <;> by_cases h2:hi < (x.toNat:Int) <;> simp [h1,h2]
theorem y95 (s:Bs) (lo:Int):Qf s lo=z0a s lo 126:=rfl
theorem w04 {s:Bs} {lo:Int} (h:rgB s lo 126=true):ascB s=true:=by
 unfold rgB at h
 unfold ascB
 rw [List.all_eq_true] at h ⊢
 intro c hc
 have:=h c hc
 unfold outP at this
 simp at this ⊢
 omega
def fldB (s:Bs):Bool:=decide ((s.length:Int)≤2000) && (rgB s 32 126 && decide (trL 32 (trR 32 s)=s))
theorem y8w (s:Bs) (h:s.length≤1000000000):z16 s=some (fldB s):=by
 unfold z16 z1v fldB
 rw [y0t s _ _ h]
 by_cases h1:(s.length:Int)≤2000
 ·rw [if_pos (by simpa using h1)]
  simp only [Option.bind_some]
  cases rgB s 32 126
  ·simp
  ·rw [if_pos rfl,x0x 32 (by decide) s h]
   simp [h1]
 ·rw [if_neg (by simpa using h1)]
  simp [h1]
theorem x5p (s:Bs):z9z s=z16 s:=rfl
def hdP (h:qo):Prop:=h.Name.length≤100000∧h.Value.length≤100000
def hdsP (l:List qo):Prop:=l.length≤1000∧∀ h,h∈l→hdP h
def hdE (h:qo):Int:=if tokB h.Name then (if fldB h.Value then 0 else 3) else 5
def hdsE (l:List qo):Int:=if 50 < (l.length:Int) then 2 else feI (fun _ h=>hdE h) 0 l
theorem w6l (l:List qo) (h:hdsP l):z9e l=some (hdsE l)∧z9y l=some (hdsE l):=by
 constructor
 ·unfold z9e y3w hdsE
  by_cases h0:50 < (l.length:Int)
  ·rw [if_pos (by simpa using h0),if_pos h0]
  ·rw [if_neg (by simpa using h0),if_neg h0,if_pos (by have:=h.1; omega)]
   refine z0r rfl l 0 fun j x _ hj => ?_
   obtain ⟨h1,h2⟩:=h.2 x (List.mem_of_getElem? hj)
   unfold y3v hdE
   rw [x48 _ (by omega),y8w _ (by omega)]
   simp only [Option.bind_some]
   cases tokB x.Name <;> cases fldB x.Value <;> simp
 ·unfold z9y y5i hdsE
  by_cases h0:50 < (l.length:Int)
  ·rw [if_pos (by simpa using h0),if_pos h0]
  ·rw [if_neg (by simpa using h0),if_neg h0,if_pos (by have:=h.1; omega)]
   refine z0r rfl l 0 fun j x _ hj => ?_
   obtain ⟨h1,h2⟩:=h.2 x (List.mem_of_getElem? hj)
   unfold y5h hdE
   rw [x0z _ (by omega),x5p,y8w _ (by omega)]
   simp only [Option.bind_some]
   cases tokB x.Name <;> cases fldB x.Value <;> simp
def pthB (s:Bs):Bool:=decide ((s.length:Int)≤1000) && (Lib.hasPrefix s [47] && (rgB s 33 126 && !Lib.containsAny s [63,35]))
theorem x2m (s:Bs) (h:s.length≤1000000000) (hr:rgB s 33 126=true):z41 s [63,35]=some (Lib.containsAny s [63,35]):=by
 unfold z41
 rw [if_pos ⟨⟨h,by simp⟩,w04 hr,rfl⟩]
theorem w1q (s:Bs) (h:s.length≤1000000000):z9d s=some (if pthB s then 0 else 3):=by
 unfold z9d Wq pthB z1z
 rw [y0t s _ _ h]
 by_cases h1:1000 < (s.length:Int)
 ·have h2:¬ (s.length:Int)≤1000:=by omega
  rw [if_pos (by simpa using h1)]
  simp [h2]
 ·have h2:(s.length:Int)≤1000:=by omega
  rw [if_neg (by simpa using h1)]
  simp only [Option.bind_some]
  cases Lib.hasPrefix s [47]
  ·simp
  ·cases hr:rgB s 33 126
   ·simp
   ·rw [x2m s h hr]
    cases hc:Lib.containsAny s [63,35] <;> simp [h2]
theorem w1p (s:Bs) (h:s.length≤1000000000):z9m s=some (pthB s):=by
 unfold z9m z0j pthB
 rw [z6f,y95,y0t s _ _ h]
 simp only [Option.bind_some]
 cases s with
 | nil=>rfl
 | cons a l =>
  have hc:(!outP ((a::l).length:Int) 1 1000)=decide (((a::l).length:Int)≤1000):=by
   rw [y7q]; simp; omega
  have hp:Lib.hasPrefix (a::l) [47]=decide ((a.toNat:Int)=47):=by
   have:=xl (fun a=>((47:UInt8) == a) == decide ((a.toNat:Int)=47)) (by decide +kernel) a
   unfold Lib.hasPrefix
   simp only [List.isPrefixOf,Bool.and_true]
   simpa using this
  rw [hc,hp,List.getElem?_cons_zero]
  simp only [Option.bind_some]
  cases decide (((a::l).length:Int)≤1000)
  ·simp
  ·cases decide ((a.toNat:Int)=47)
   ·simp
   ·cases hr:rgB (a::l) 33 126
    ·simp
    ·rw [x2m _ h hr]
     simp
def qryB (s:Bs):Bool:=decide ((s.length:Int)≤1000) && (rgB s 33 126 && !Lib.contains s [35])
theorem w1j (s:Bs) (h:s.length≤1000000000):z9a s=some (if qryB s then 0 else 3):=by
 unfold z9a z1r qryB z42
 rw [y0t s _ _ h,if_pos h]
 by_cases h1:1000 < (s.length:Int)
 ·have h2:¬ (s.length:Int)≤1000:=by omega
  rw [if_pos (by simpa using h1)]
  simp [h2]
 ·have h2:(s.length:Int)≤1000:=by omega
  rw [if_neg (by simpa using h1)]
  simp only [Option.bind_some]
  cases hr:rgB s 33 126
  ·simp
  ·cases hc:Lib.contains s [35] <;> simp [h2]
theorem w1i (s:Bs) (h:s.length≤1000000000):z9l s=some (qryB s):=by
 unfold z9l z2n qryB z42
 rw [y95,y0t s _ _ h,if_pos h]
 by_cases h1:(s.length:Int)≤1000
 ·rw [if_pos (by simpa using h1)]
  simp only [Option.bind_some]
  cases hr:rgB s 33 126 <;> cases hc:Lib.contains s [35] <;> simp [h1]
 ·rw [if_neg (by simpa using h1)]
  simp [h1]
noncomputable def y8v (s:Bs):Option Bool:=
 forL (fun (k:Nat) (x:Bs) (_:Unit)=>y3r k x) (fun (_:Unit)=>y3s s (Lib.cut s [58])) 0 (spl 46 (Lib.cut s [58]).1) ()
noncomputable def y43 (k:Nat) (x:Bs):Option (Unit ⊕ (Bs×Int)):=
 (kn (x.length:Int) 1 63).bind fun r33=>if !r33 then (Qm true) else ((xc x [97,98,99,100,101,102,103,104,105,106,107,108,109,110,111,112,113,114,115,116,117,118,119,120,121,122,65,66,67,68,69,70,71,72,73,74,75,76,77,78,79,80,81,82,83,84,85,86,87,88,89,90,48,49,50,51,52,53,54,55,56,57,45]).bind fun r37=>if !r37 then (Qm true) else (Qm (decide (trL 45 (trR 45 x)≠x))))
theorem w6f (k:Nat) (x:Bs) (h:x.length≤1000000000):z6q k x=y43 k x:=by
 unfold z6q y43
 rw [x0x 45 (by decide) x h]
 rfl
noncomputable def z6h (r2:(Bs×Bs×Bool)) (r4:(Int×Bool)) (v17:Bool):Option (Bs×Int):=
 if v17 then (some ([],3)) else (if (spl 46 r2.1).length≤1000000000 then forL (fun (k:Nat) (x:Bs) (_:Unit)=>y43 k x) (fun (_:Unit)=>z6r r2 r4) 0 (spl 46 r2.1) () else none)
theorem w6g (r2:(Bs×Bs×Bool)) (r4:(Int×Bool)) (v:Bool) (h:r2.1.length≤100000):Qn r2 r4 v=z6h r2 r4 v:=by
 unfold Qn z6h ka
 cases v
 case true=>rfl
 simp only [Bool.false_eq_true,if_false]
 rw [if_pos (c:=r2.1.length≤1000000000∧_) ⟨by omega,by simp⟩,z8b]
 simp only [Option.bind_some]
 have:forL (fun (k:Nat) (x:Bs) (_:Unit)=>z6q k x) (fun (_:Unit)=>z6r r2 r4) 0 (spl 46 r2.1) ()=forL (fun (k:Nat) (x:Bs) (_:Unit)=>y43 k x) (fun (_:Unit)=>z6r r2 r4) 0 (spl 46 r2.1) ():=by
  refine x5l (fun _=>rfl) _ 0 () fun j x s _ hj => ?_
  have:=Yw 46 r2.1 x (List.mem_of_getElem? hj)
  exact w6f j x (by omega)
 rw [this]
noncomputable def y82 (v1:Bs):Option (Bs×Int):=
 (Ye (Lib.cut v1 [58]).2.1 5).bind fun r4=>if decide (255 < (v1.length:Int)) then (z6h (Lib.cut v1 [58]) r4 true) else (if (Lib.cut v1 [58]).2.2 then (if !r4.2 then (z6h (Lib.cut v1 [58]) r4 true) else ((kn r4.1 1 65535).bind fun r12=>z6h (Lib.cut v1 [58]) r4 (!r12))) else (z6h (Lib.cut v1 [58]) r4 false))
theorem x54 (s:Bs) (c:UInt8):(Lib.cut s [c]).1.length≤s.length:=by
 unfold Lib.cut
 split
 ·simp; omega
 ·exact Nat.le_refl _
theorem w54 (s:Bs) (h:s.length≤100000):z47 s=y8v s:=by
 have h1:=x54 s 58
 have h2:=Ze 46 (Lib.cut s [58]).1
 unfold z47 y8v xq ka
 rw [if_pos (by omega)]
 simp only [Option.bind_some]
 rw [if_pos ⟨by omega,by simp⟩,z8b]
 simp only [Option.bind_some]
 rw [if_pos (by omega)]
theorem w6e (s:Bs) (h:s.length≤100000):z5m s=y82 s:=by
 have h1:=x54 s 58
 unfold z5m y82 xq
 rw [if_pos (by omega)]
 simp only [Option.bind_some]
 congr 1
 funext r4
 simp only [w6g _ _ _ (show (Lib.cut s [58]).1.length≤100000 by omega)]
def z6g:List Bs:=[[65,46,66,58,56,48],[99,46,100],[97,46,98],[65,46,66],[97,46,98,58,56,48],[99,46,100,58,56,48,56,48],[115,104,111,112,46,101,120,97,109,112,108,101],[97,46,98,58,52,52,51],[97,46,98,58,56,48,56,48],[120,45,49,46,121],[49,46,50,46,51,46,52],[],[97,46,46,98],[45,97,46,98],[97,46,98,58,48],[97,46,98,58,48,56],[97,46,98,58,54,53,53,51,54],[97,95,98],[97,46,98,58],[97,32,98],List.replicate 64 97]
noncomputable def x5d (s:Bs):Bool:=match y8v s,y82 s with
 | some b,some r=>r.2 == (if b then 0 else 3)
 | _,_=>false
theorem w6c:z6g.all x5d=true:=by decide +kernel
theorem w6b:z6g.all (fun s=>decide (s.length≤1000))=true:=by decide +kernel
theorem w6d {s:Bs} (h:s∈z6g):∃ b r,z47 s=some b∧z5m s=some r∧r.2=if b then 0 else 3:=by
 have h1:=List.all_eq_true.1 w6c s h
 have h2:=of_decide_eq_true (List.all_eq_true.1 w6b s h)
 rw [w54 s (by omega),w6e s (by omega)]
 unfold x5d at h1
 split at h1
 ·rename_i b r e1 e2
  exact ⟨b,r,e1,e2,by simpa using h1⟩
 ·cases h1
def rqP (r:wj):Prop:=r.Method.length≤100000∧r.Host∈z6g∧r.Path.length≤100000∧r.Query.length≤100000∧r.From.length≤100000∧hdsP r.Headers
theorem w07 (r:wj) (h:rqP r):Ok (z5b r) fun e=>z9s r=some e:=by
 obtain ⟨p1,p2,p3,p4,p5,p6⟩:=h
 obtain ⟨b,q,e1,e2,e3⟩:=w6d p2
 have hh:=w6l r.Headers p6
 unfold z5b z9s Wr z2r
 rw [x49,y7v,x48 _ (by omega),x0z _ (by omega),e1,e2,w1q _ (by omega),w1p _ (by omega),w1j _ (by omega),w1i _ (by omega),x5p,y8w _ (by omega),hh.1,hh.2]
 simp only [Option.bind_some,e3]
 cases momP r.At
 ·exact yx rfl
 ·cases tokB r.Method
  ·exact yx rfl
  ·cases b
   ·exact yx rfl
   ·cases pthB r.Path
    ·exact yx rfl
    ·cases qryB r.Query
     ·exact yx rfl
     ·cases fldB r.From
      ·exact yx rfl
      ·simp only [if_true,Bool.not_true,Bool.false_eq_true,if_false,ne_eq,not_true_eq_false,decide_false]
       split
       ·exact yx rfl
       ·split <;> exact yx rfl
abbrev lo (s:Bs):Bs:=Lib.toLowerA s
theorem x22 (x:UInt8):(Lib.lowerB x).toNat=if 65≤x.toNat∧x.toNat≤90 then x.toNat+32 else x.toNat:=by
 have:=xl (fun x=>decide ((Lib.lowerB x).toNat=if 65≤x.toNat∧x.toNat≤90 then x.toNat+32 else x.toNat)) (by decide +kernel) x
 exact of_decide_eq_true this
theorem w6s (x y:UInt8):Lib.foldEq x y=decide (Lib.lowerB x=Lib.lowerB y):=by
 unfold Lib.foldEq
 refine decide_eq_decide.2 ?_
 rw [← UInt8.toNat_inj,x22,x22]
 split <;> split <;> omega
theorem x5w:∀ a b:Bs,Lib.equalFold a b=decide (lo a=lo b)
 | [],[]=>rfl
 | [],y::t=>by simp [Lib.equalFold,lo,Lib.toLowerA]
 | x::s,[]=>by simp [Lib.equalFold,lo,Lib.toLowerA]
 | x::s,y::t=>by
  have ih:=x5w s t
  show (Lib.foldEq x y && Lib.equalFold s t)=_
  rw [w6s,ih]
  unfold lo Lib.toLowerA
  simp only [List.map_cons,List.cons.injEq]
  by_cases h1:Lib.lowerB x=Lib.lowerB y <;> simp [h1]
def nmB (n:Bs) (h:qo):Bool:=decide (lo h.Name=lo n)
def nmOK (h:qo):Prop:=ascB h.Name=true∧h.Name.length≤100000
theorem w18 (h:qo) (n:Bs) (h1:nmOK h) (h2:ascB n=true):z9c h n=some (nmB n h):=by
 unfold z9c y33
 rw [if_pos ⟨by have:=h1.2; omega,h1.1,h2⟩]
 simp only [Option.bind_some,x5w]
 rfl
theorem w87 (a b:Bs) (ha:ascB a=true∧a.length≤100000) (hb:ascB b=true∧b.length≤100000):z9o a b=some (decide (lo a=lo b)):=by
 unfold z9o z40
 rw [if_pos ⟨by omega,ha.1⟩]
 simp only [Option.bind_some]
 rw [if_pos ⟨by omega,hb.1⟩]
 rfl
def xk (n:Bs) (l:List qo):List Bs:=(l.filter (nmB n)).map fun x=>x.Value
theorem y99 (n:Bs) (hn:ascB n=true):∀ (l:List qo) (k:Nat) (q:List Bs),(∀ x,x∈l→nmOK x)→q.length+l.length≤1000 →
  forL (fun (k:Nat) (x:qo) (s:(List Bs))=>z1u n k x s) (fun (s:(List Bs))=>y3t s) k l q=some (q++xk n l)
 | [],k,q,_,_=>by show some q=_; simp [xk]
 | x::l,k,q,h,hl=>by
  simp only [List.length_cons] at hl
  have hst:z1u n k x q=some (.inl (if nmB n x then q++[x.Value] else q)):=by
   unfold z1u z4q
   rw [w18 x n (h x (by simp)) hn]
   simp only [Option.bind_some]
   cases nmB n x
   ·rfl
   ·simp only [if_true]; rw [if_pos (by omega)]
  show (z1u n k x q).bind _=_
  rw [hst]
  have ih:=y99 n hn l (k+1) (if nmB n x then q++[x.Value] else q) (fun y hy=>h y (List.mem_cons_of_mem _ hy)) (by split <;> first | omega | (simp only [List.length_append,List.length_cons,List.length_nil]; omega))
  refine Eq.trans ih ?_
  unfold xk
  rw [List.filter_cons]
  cases nmB n x <;> simp
theorem y98 (n:Bs) (hn:ascB n=true∧n.length≤100000):∀ (l:List qo) (k:Nat) (q:List Bs),(∀ x,x∈l→nmOK x)→q.length+l.length≤1000 →
  forL (fun (k:Nat) (x:qo) (s:(List Bs))=>z2o n k x s) (fun (s:(List Bs))=>y5a s) k l q=some (q++xk n l)
 | [],k,q,_,_=>by show some q=_; simp [xk]
 | x::l,k,q,h,hl=>by
  simp only [List.length_cons] at hl
  have hst:z2o n k x q=some (.inl (if nmB n x then q++[x.Value] else q)):=by
   unfold z2o z6j
   rw [w87 x.Name n (h x (by simp)) hn]
   simp only [Option.bind_some]
   show (if nmB n x=true then _ else _)=_
   cases nmB n x
   ·rfl
   ·simp only [if_true]; rw [if_pos (by omega)]
  show (z2o n k x q).bind _=_
  rw [hst]
  have ih:=y98 n hn l (k+1) (if nmB n x then q++[x.Value] else q) (fun y hy=>h y (List.mem_cons_of_mem _ hy)) (by split <;> first | omega | (simp only [List.length_append,List.length_cons,List.length_nil]; omega))
  refine Eq.trans ih ?_
  unfold xk
  rw [List.filter_cons]
  cases nmB n x <;> simp
theorem y97 (l:List qo) (n:Bs) (hl:l.length≤1000) (h:∀ x,x∈l→nmOK x) (hn:ascB n=true∧n.length≤100000):z48 l n=some (xk n l)∧z5f l n=some (xk n l):=by
 constructor
 ·unfold z48
  rw [if_pos (by omega),y99 n hn.1 l 0 [] h (by simpa using hl)]; rfl
 ·unfold z5f
  rw [if_pos (by omega),y98 n hn l 0 [] h (by simpa using hl)]; rfl
section
end
def aQ (n:Nat) (s:Bs):Bool:=ascB s && decide (s.length≤n)
theorem w89 {n:Nat} {s:Bs} (h:aQ n s=true):ascB s=true∧s.length≤n:=by
 unfold aQ at h
 simpa using h
theorem z1i {k:Int} {s:zt} (h:SB k s) (hk:k≤100000000) (n:Nat) (l:List Bs) (hl:l≠[]∧l.length≤1000) (hQ:l.all (aQ n)=true):Ok (ja s l) fun r=>(ascB r.1=true∧r.1.length≤n)∧SB (k+1) r.2:=
 z4k (jv h hk l hl) fun r hr=>⟨w89 (List.all_eq_true.1 hQ _ hr.1),hr.2⟩
def hdA (h:qo):Prop:=hdP h∧nmOK h
theorem x5f {l:List qo} {x:qo} (h:∀ y,y∈l→hdA y) (hx:hdA x):∀ y,y∈l++[x]→hdA y:=by
 intro y hy
 rcases List.mem_append.1 hy with hy | hy
 ·exact h y hy
 ·rw [List.mem_singleton.1 hy]; exact hx
theorem w6m {a b:Bs} (h1:ascB a=true∧a.length≤3000) (h2:b.length≤30000):hdA (qo.mk a b):=⟨⟨by show a.length≤_; omega,by show b.length≤_; omega⟩,h1.1,by show a.length≤_; omega⟩
theorem w03 {k:Int} {s:zt} (h:SB k s) (hk:k≤10000) (most:Int) (hm:0≤most∧most≤10) :
  Ok (y0a s most) fun r=>(r.1.length≤10∧∀ y,y∈r.1→hdA y)∧SB (k+30) r.2:=by
 unfold y0a
 refine yc (y3l h (by omega) 0 most (by omega)) fun r hr => ?_
 obtain ⟨m,hm⟩:∃ m:Nat,r.1=(m:Int):=⟨r.1.toNat,by omega⟩
 rw [hm,Int.toNat_natCast]
 refine ok_g (by omega) ?_
 refine z8j (fun j (q:List Int×Int×List qo)=>j≤m∧SB (k+1+2 * (j:Int)) (zt.mk q.1 q.2.1)∧q.2.2.length≤j∧∀ y,y∈q.2.2→hdA y) m 0 _ ⟨by omega,hr.2.mono (by omega),by simp,by simp⟩ ?_ ?_
 ·rintro j ⟨c5,c6,l7⟩ _ hj ⟨h0,h1,h2,h3⟩
  simp only at h1 h2 h3 ⊢
  unfold y5l
  refine yc (z1i h1 (by omega) 3000 _ ⟨by simp,by simp⟩ (by decide +kernel)) fun r1 hr1=>yc (z1i hr1.2 (by omega) 3000 _ ⟨by simp,by simp⟩ (by decide +kernel)) fun r2 hr2=>ok_g (by omega) (yx ?_)
  exact ⟨by omega,hr2.2.mono (by omega),by simp; omega,x5f h3 (w6m hr1.1 (by have:=hr2.1.2; omega))⟩
 ·rintro ⟨c5,c6,l7⟩ ⟨h0,h1,h2,h3⟩
  simp only at h1 h2 h3 ⊢
  unfold y5m
  exact yx ⟨⟨by simp only; omega,h3⟩,h1.mono (by omega)⟩
def rqK (n:Nat) (r:wj):Prop:=(r.Method.length≤100000∧r.Host∈z6g∧r.Path.length≤100000∧r.Query.length≤100000∧r.From.length≤100000)∧r.Headers.length≤n∧∀ y,y∈r.Headers→hdA y
theorem w0y {n:Nat} (hn:n≤1000) {r:wj} (h:rqK n r):rqP r:=⟨h.1.1,h.1.2.1,h.1.2.2.1,h.1.2.2.2.1,h.1.2.2.2.2,by have:=h.2.1; omega,fun y hy=>(h.2.2 y hy).1⟩
theorem z8g {n m:Nat} {r:wj} (h:rqK n r) (hm:n≤m):rqK m r:=⟨h.1,by have:=h.2.1; omega,h.2.2⟩
theorem y4k {n:Nat} (hn:n≤1000) {c:wj} (h:rqK n c) {a b:Bs} (ha:ascB a=true∧a.length≤3000) (hb:b.length≤99000):Ok (z0e a b c) (rqK (n+1)):=by
 unfold z0e
 refine ok_g (by have:=h.2.1; omega) (yx ⟨h.1,?_,x5f h.2.2 ⟨⟨by show a.length≤_; omega,by show b.length≤_; omega⟩,ha.1,by show a.length≤_; omega⟩⟩)
 have:=h.2.1
 show (c.Headers++[_]).length≤n+1
 simp; omega
theorem x3r {n:Nat} {r:wj} {c:List Int} {d m:Int} (h:rqK n r) (hs:SB m ⟨c,d⟩) (hm:m≤10000):Ok (z3f c d r.Headers r.At r.Method r.Host r.Path r.Query r.From r.Body) fun q=>rqK n q.1:=by
 unfold z3f z60
 exact yc (ua hs (by omega) _ (by omega)) fun r72 h72=>ww (fun _=>yx ⟨⟨h.1.1,h.1.2.1,by simp,h.1.2.2.2⟩,h.2⟩) (fun _=>yx h)
theorem y4j {n:Nat} {r:wj} {c:List Int} {d m:Int} (hn:n≤100) (h:rqK n r) (hs:SB m ⟨c,d⟩) (hm:m≤9000):Ok (Qr c d r.Headers r.At r.Method r.Host r.Path r.Query r.From r.Body) fun q=>rqK (n+1) q.1:=by
 unfold Qr
 refine yc (ua hs (by omega) _ (by omega)) fun r53 h53=>ww (fun _ => ?_) (fun _=>z4k (x3r h h53 (by omega)) fun q hq=>z8g hq (by omega))
 exact yc (z1i h53 (by omega) 3000 _ ⟨by simp,by simp⟩ (by decide +kernel)) fun r56 h56=>yc (z1i h56.2 (by omega) 3000 _ ⟨by simp,by simp⟩ (by decide +kernel)) fun r58 h58=>yc (y4k (by omega) (show rqK n (wj.mk r.At r.Method r.Host r.Path r.Query r.From r.Headers r.Body) from h) h56.1 (by have:=h58.1.2; omega)) fun r60 h60=>x3r h60 h58.2 (by omega)
section
variable {r3:Int×zt} {r5:(List qo)×zt} (h5:r5.1.length≤10∧∀ y,y∈r5.1→hdA y)
include h5
theorem y4i:rqK 10 (wj.mk r3.1 [71,69,84] [97,46,98] [47] [] [] r5.1 []):=⟨⟨by simp,(show ([97,46,98]:Bs)∈z6g by decide +kernel),by simp,by simp,by simp⟩,h5.1,h5.2⟩
theorem x3q {v:Bs} {c:List Int} {d m:Int} (hv:v.length≤98200) (hs:SB m ⟨c,d⟩) (hm:m≤8000):Ok (z3h r3 r5 v c d) fun q=>rqK 30 q.1:=by
 unfold z3h
 exact yc (z1i hs (by omega) 3000 _ ⟨by simp,by simp⟩ (by decide +kernel)) fun r26 h26=>ok_g (by simp; omega) (yc (y4k (by omega) (y4i h5) h26.1 (by simp; omega)) fun r29 h29=>z4k (y4j (by omega) h29 h26.2 (by omega)) fun q hq=>z8g hq (by omega))
theorem x3p {r7:Int×zt} {b:Bool} {m:Int} (hs:SB m r7.2) (hm:m≤8000):Ok (z3g r3 r5 r7 b) fun q=>rqK 30 q.1:=by
 unfold z3g
 refine ww (fun _ => ?_) (fun _=>ww (fun _ => ?_) (fun _=>z4k (y4j (by omega) (y4i h5) hs (by omega)) fun q hq=>z8g hq (by omega)))
 ·exact yc (z1i hs (by omega) 3000 _ ⟨by simp,by simp⟩ (by decide +kernel)) fun r34 h34=>yc (y4k (by omega) (y4i h5) ⟨by decide +kernel,by simp⟩ (by have:=h34.1.2; omega)) fun r36 h36=>z4k (y4j (by omega) h36 h34.2 (by omega)) fun q hq=>z8g hq (by omega)
 ·exact yc (z1i hs (by omega) 3000 _ ⟨by simp,by simp⟩ (by decide +kernel)) fun r39 h39=>yc (y4k (by omega) (y4i h5) ⟨by decide +kernel,by simp⟩ (by have:=h39.1.2; omega)) fun r41 h41=>z4k (y4j (by omega) h41 h39.2 (by omega)) fun q hq=>z8g hq (by omega)
theorem w21 {r7:Int×zt} {b:Bool} {m:Int} (hs:SB m r7.2) (hm:m≤5000) {K:wo} (hK:KeB K):Ok (Qq K r3 r5 r7 b) fun q=>rqK 30 q.1:=by
 unfold Qq
 refine ww (fun _ => ?_) (fun _=>ww (fun _=>x3p h5 hs (by omega)) (fun _=>x3p h5 hs (by omega)))
 rw [x5t _ hK.sg]
 simp only [Option.bind_some]
 refine ww (fun _ => ?_) (fun _=>x3q h5 (by simp) hs (by omega))
 exact yc (x2e hs (by omega)) fun r17 h17=>yc (um h17.2 (by omega) _ ⟨by simp,by simp⟩) fun r19 h19=>yc (x76 h19.2 (by omega) hK.sg h17.1 _) fun r21 h21=>x3q h5 h21.1 h21.2 (by omega)
end
theorem w20 {k:Int} {s:zt} (h:SB k s) (hk:k≤3000) {K:wo} (hK:KeB K):Ok (y0c s K) fun q=>rqK 30 q.1:=by
 unfold y0c
 refine yc (um h (by omega) _ ⟨by simp,by simp⟩) fun r3 h3=>yc (w03 h3.2 (by omega) 1 (by omega)) fun r5 h5=>yc (Zg h5.2 (by omega) 8 (by omega)) fun r7 h7 => ?_
 have J:=fun b=>w21 (r3:=r3) h5.1 (b:=b) h7.2 (by omega) hK
 exact ww (fun _=>J _) (fun _=>ww (fun _=>J _) (fun _=>ww (fun _=>J _) (fun _=>J _)))
theorem w7y (s p:Bs) (hs:s.length≤1000000000):Ok (z11 s p) fun r=>r.1.length≤s.length:=by
 unfold z11 y39 y38 z52
 refine yc (Q:=fun (r:Bs×Bool)=>r.1.length≤s.length) ?_ (fun r h=>yx h)
 refine yc (Q:=fun (b:Bool)=>b=true→p.length≤s.length) ?_ ?_
 ·refine ww (fun h => ?_) (fun _=>yx (fun h=>by cases h))
  have h:(p.length:Int)≤(s.length:Int):=by simpa using h
  exact yc (Wm s 0 _ ⟨by omega,by omega,by omega⟩) fun l _=>yx fun _=>by omega
 ·intro b hb
  refine ww (fun _=>yx (Nat.le_refl _)) (fun h => ?_)
  have h1:b=true:=by simpa using h
  have h2:=hb h1
  exact yc (Wm s _ _ ⟨by omega,by omega,by omega⟩) fun l hl=>yx (by simp only; omega)
theorem w8i {k:wo} (hk:KeB k) (h0:kpF k=0) (x:Bs) (hx:x.length≤100000) (v:Int):∃ r,((z11 x [66,101,97,114,101,114,32]).bind fun (r12:(Bs×Bool))=>if ((!r12.2) || (decide (r12.1=[]))) then (some ((yl.mk 0 [] []),(9:Int))) else ((z5p k r12.1 v).bind fun (r15:(zm×Int))=>if decide (r15.2≠0) then (some ((yl.mk 0 [] []),r15.2)) else (some ((yl.mk 1 r15.1.Subject r15.1.Scopes),0))))=some r∧r.1.Scopes.length≤1000000000∧z4t k x v=some r:=by
 obtain ⟨c,c1,c2⟩:=w7y x [66,101,97,114,101,114,32] (by omega)
 obtain ⟨a,a1,a2,a3⟩:=w88 hk h0 c.1 (by omega) v
 unfold z4t
 rw [c1]
 simp only [Option.bind_some]
 rw [a1,a3]
 simp only [Option.bind_some]
 cases ((!c.2) || (decide (c.1=[])))
 ·cases decide (a.2≠0)
  ·exact ⟨_,rfl,by have:=a2.sc.1; show a.1.Scopes.length≤_; omega,rfl⟩
  ·exact ⟨_,rfl,by simp,rfl⟩
 ·exact ⟨_,rfl,by simp,rfl⟩
abbrev StK:=Bool×(List Bs)×Int×Bs
def stK (own:Bs) (v:Int) (q:StK) (x:yr):StK:=
 if x.Sum≠own then q else if (x.From≤v∧v < x.To)∧(q.2.2.1=0∨q.2.2.2=x.App) then (true,q.2.1++x.Scopes,2,x.App) else (true,q.2.1,q.2.2.1,q.2.2.2)
theorem y65 (own:Bs) (v:Int) (q:StK) (x:yr) (hx:x.Scopes.length≤60) (hs:Sh x.Scopes) (hq:∀ s,s∈q.2.1→s.length≤1000000):(stK own v q x).2.1.length≤q.2.1.length+60∧∀ s,s∈(stK own v q x).2.1→s.length≤1000000:=by
 unfold stK
 split
 ·exact ⟨by omega,hq⟩
 ·split
  ·refine ⟨by simp; omega,fun s hs' => ?_⟩
   rcases List.mem_append.1 hs' with h | h
   ·exact hq s h
   ·exact hs.2 s h
  ·exact ⟨by simp only; omega,hq⟩
theorem x5n (own:Bs) (v:Int):∀ (l:List yr) (q:StK),(∀ x,x∈l→x.Scopes.length≤60∧Sh x.Scopes)→(∀ s,s∈q.2.1→s.length≤1000000)→(l.foldl (stK own v) q).2.1.length≤q.2.1.length+60 * l.length∧∀ s,s∈(l.foldl (stK own v) q).2.1→s.length≤1000000
 | [],q,_,hq=>⟨by simp,hq⟩
 | x::l,q,h,hq=>by
  have h1:=h x (by simp)
  have h2:=y65 own v q x h1.1 h1.2 hq
  have h3:=x5n own v l (stK own v q x) (fun y hy=>h y (List.mem_cons_of_mem _ hy)) h2.2
  refine ⟨?_,h3.2⟩
  have:=h3.1
  have:=h2.1
  simp only [List.foldl_cons,List.length_cons]
  omega
theorem x3u (own:Bs) (v:Int):∀ (l:List yr) (k:Nat) (q:StK),(∀ x,x∈l→x.Scopes.length≤60∧Sh x.Scopes)→(∀ s,s∈q.2.1→s.length≤1000000)→q.2.1.length+60 * l.length≤1000000 →
  forL (fun (k:Nat) (x:yr) (s:StK)=>z04 v own k x s.1 s.2.1 s.2.2.1 s.2.2.2) (fun (s:StK)=>z4a s.1 s.2.1 s.2.2.1 s.2.2.2) k l q=z4a (l.foldl (stK own v) q).1 (l.foldl (stK own v) q).2.1 (l.foldl (stK own v) q).2.2.1 (l.foldl (stK own v) q).2.2.2
 | [],k,q,_,_,_=>rfl
 | x::l,k,q,h,hq,hb=>by
  have h1:=h x (by simp)
  have h2:=y65 own v q x h1.1 h1.2 hq
  simp only [List.length_cons] at hb
  have hst:z04 v own k x q.1 q.2.1 q.2.2.1 q.2.2.2=some (.inl (stK own v q x)):=by
   unfold z04 z05 stK
   by_cases e1:x.Sum=own
   ·rw [if_neg (by simpa using e1),if_neg (not_not_intro e1)]
    by_cases e2:(x.From≤v∧v < x.To)∧(q.2.2.1=0∨q.2.2.2=x.App)
    ·rw [if_pos (by simpa using e2),if_pos e2,if_pos (by omega)]
    ·rw [if_neg (by simpa using e2),if_neg e2]
   ·rw [if_pos (by simpa using e1),if_pos e1]
  show (z04 v own k x q.1 q.2.1 q.2.2.1 q.2.2.2).bind _=_
  rw [hst]
  exact x3u own v l (k+1) (stK own v q x) (fun y hy=>h y (List.mem_cons_of_mem _ hy)) h2.2 (by have:=h2.1; omega)
theorem x3t (own:Bs) (r:wj):∀ (l:List yr) (k:Nat) (q:StK),(∀ x,x∈l→x.Scopes.length≤60∧Sh x.Scopes)→(∀ s,s∈q.2.1→s.length≤1000000)→q.2.1.length+60 * l.length≤1000000 →
  forL (fun (k:Nat) (x:yr) (s:Bool×Int×Bs×(List Bs))=>Qp r own k x s.1 s.2.1 s.2.2.1 s.2.2.2) (fun (s:Bool×Int×Bs×(List Bs))=>z0o s.1 s.2.1 s.2.2.1 s.2.2.2) k l (q.1,q.2.2.1,q.2.2.2,q.2.1)=z0o (l.foldl (stK own r.At) q).1 (l.foldl (stK own r.At) q).2.2.1 (l.foldl (stK own r.At) q).2.2.2 (l.foldl (stK own r.At) q).2.1
 | [],k,q,_,_,_=>rfl
 | x::l,k,q,h,hq,hb=>by
  have h1:=h x (by simp)
  have h2:=y65 own r.At q x h1.1 h1.2 hq
  simp only [List.length_cons] at hb
  have hst:Qp r own k x q.1 q.2.2.1 q.2.2.2 q.2.1=some (.inl ((stK own r.At q x).1,(stK own r.At q x).2.2.1,(stK own r.At q x).2.2.2,(stK own r.At q x).2.1)):=by
   unfold Qp z6u stK
   by_cases e1:x.Sum=own
   ·rw [if_neg (not_not_intro e1)]
    by_cases e2:(x.From≤r.At∧r.At < x.To)∧(q.2.2.1=0∨q.2.2.2=x.App)
    ·rw [if_pos e2,if_neg (by
      obtain ⟨⟨e3,e4⟩,e5⟩:=e2
      simp only [Bool.or_eq_true,Bool.and_eq_true,decide_eq_true_eq,ne_eq,not_or,not_and,Decidable.not_not]
      refine ⟨⟨⟨e1,by omega⟩,by omega⟩,fun h => ?_⟩
      rcases e5 with e5 | e5
      ·exact absurd e5 h
      ·exact e5),if_pos (by omega)]
     simp [e1]
    ·rw [if_neg e2,if_pos (by
      simp only [Bool.or_eq_true,Bool.and_eq_true,decide_eq_true_eq,ne_eq]
      by_cases e3:r.At < x.From
      ·exact .inl (.inl (.inr e3))
      ·by_cases e4:x.To≤r.At
       ·exact .inl (.inr e4)
       ·refine .inr ⟨fun h=>e2 ⟨⟨by omega,by omega⟩,.inl h⟩,fun h=>e2 ⟨⟨by omega,by omega⟩,.inr h⟩⟩)]
     simp [e1]
   ·rw [if_pos e1,if_pos (by simp [e1])]
    simp [e1]
  show (Qp r own k x q.1 q.2.2.1 q.2.2.2 q.2.1).bind _=_
  rw [hst]
  exact x3t own r l (k+1) (stK own r.At q x) (fun y hy=>h y (List.mem_cons_of_mem _ hy)) h2.2 (by have:=h2.1; omega)
theorem w8j {k:wo} (hk:KeB k) (x:Bs) (hx:x.length≤100000) (rq:wj):∃ r,((uo k.Issuer x).bind fun (r21:(Bs))=>if k.Holders.length≤1000000000 then forL (fun (k:Nat) (x:yr) (s:Bool×Int×Bs×(List Bs))=>Qp rq r21 k x s.1 s.2.1 s.2.2.1 s.2.2.2) (fun (s:Bool×Int×Bs×(List Bs))=>z0o s.1 s.2.1 s.2.2.1 s.2.2.2) 0 k.Holders (false,0,[],[]) else none)=some r∧r.1.Scopes.length≤1000000000∧z4u k x rq.At=some r:=by
 obtain ⟨own,s1,s2,_⟩:=y2t k.Issuer x (by have:=hk.iss; omega) (by omega)
 have hn:=hk.ho.len
 have hall:∀ x,x∈k.Holders→x.Scopes.length≤60∧Sh x.Scopes:=fun x hx=>⟨hk.ho.few x hx,(hk.ho.key x hx).2.2⟩
 have hf:=x5n own rq.At k.Holders (false,[],0,[]) hall (by simp)
 have e1:=x3u own rq.At k.Holders 0 (false,[],0,[]) hall (by simp) (by simp only [List.length_nil]; omega)
 have e2:=x3t own rq k.Holders 0 (false,[],0,[]) hall (by simp) (by simp only [List.length_nil]; omega)
 unfold z4u
 rw [s1,s2]
 simp only [Option.bind_some]
 rw [if_pos (by omega),if_pos (by omega)]
 rw [show forL (fun (k:Nat) (x:yr) (s:Bool×Int×Bs×(List Bs))=>Qp rq own k x s.1 s.2.1 s.2.2.1 s.2.2.2) (fun (s:Bool×Int×Bs×(List Bs))=>z0o s.1 s.2.1 s.2.2.1 s.2.2.2) 0 k.Holders (false,0,[],[])=_ from e2,e1]
 generalize List.foldl (stK own rq.At) (false,[],0,[]) k.Holders=f at hf
 have hsh:Sh f.2.1:=⟨by have:=hf.1; simp only [List.length_nil] at this; omega,hf.2⟩
 have hl:=y76 f.2.1
 have hl2:=hsh.1
 unfold z4a z0o
 rw [x3e _ hsh,y8a _ hsh]
 simp only [Option.bind_some]
 cases f.1
 ·exact ⟨_,rfl,by simp,rfl⟩
 ·simp only [Bool.not_true,Bool.false_eq_true,if_false]
  cases decide (f.2.2.1=0)
  ·simp only [Bool.false_eq_true,if_false]
   cases decide (50 < ((lsP f.2.1).length:Int))
   ·exact ⟨_,rfl,by show (lsP f.2.1).length≤_; omega,rfl⟩
   ·exact ⟨_,rfl,by simp,rfl⟩
  ·exact ⟨_,rfl,by simp,rfl⟩
theorem x0a {n:Bs} {l:List qo} (h:∀ y,y∈l→hdA y):∀ x,x∈xk n l→x.length≤100000:=fun x hx=>by
 unfold xk at hx
 obtain ⟨y,hy,rfl⟩:=List.mem_map.1 hx
 exact (h y (List.mem_filter.1 hy).1).1.2
def xj:yl:=⟨0,[],[]⟩
theorem w8g {k:wo} (hk:KeB k) {r:wj} (hr:rqK 30 r) (e:Int) (he:z5b r=some e):∃ q,(kpF k=0→e=0→z92 k r=some q∧q.1.Scopes.length≤1000000000)∧z87 k r=some (if kpF k≠0 then (xj,kpF k) else if e≠0 then (xj,e) else q):=by
 unfold z87 z92
 rw [w8d k hk,he]
 simp only [Option.bind_some]
 by_cases h0:kpF k=0
 ·by_cases h1:e=0
  ·have v1:=y97 r.Headers [97,117,116,104,111,114,105,122,97,116,105,111,110] (by have:=hr.2.1; omega) (fun x hx=>(hr.2.2 x hx).2) ⟨by decide +kernel,by simp⟩
   have v2:=y97 r.Headers [120,45,97,112,105,45,107,101,121] (by have:=hr.2.1; omega) (fun x hx=>(hr.2.2 x hx).2) ⟨by decide +kernel,by simp⟩
   have l1:=x0a (n:=[97,117,116,104,111,114,105,122,97,116,105,111,110]) hr.2.2
   have l2:=x0a (n:=[120,45,97,112,105,45,107,101,121]) hr.2.2
   rw [v1.1,v1.2,v2.1,v2.2]
   simp only [Option.bind_some,h0,h1,ne_eq,not_true_eq_false,decide_false,Bool.false_eq_true,if_false,forall_const]
   generalize xk [97,117,116,104,111,114,105,122,97,116,105,111,110] r.Headers=a at l1
   generalize xk [120,45,97,112,105,45,107,101,121] r.Headers=b at l2
   have six:∀ (c:Bool),c=true→∀ (o1 o2:Option (yl×Int)),∃ q,((if c=true then some ((yl.mk 0 [] []),(6:Int)) else o1)=some q∧q.1.Scopes.length≤1000000000)∧(if c=true then some ((yl.mk 0 [] []),(6:Int)) else o2)=some q:=fun c hc o1 o2=>⟨_,⟨if_pos hc,by simp⟩,if_pos hc⟩
   rcases a with _ | ⟨x,_ | ⟨x2,a⟩⟩
   ·rcases b with _ | ⟨y,_ | ⟨y2,b⟩⟩
    ·exact ⟨(xj,0),⟨rfl,by simp [xj]⟩,rfl⟩
    ·obtain ⟨q,q1,q2,q3⟩:=w8j hk y (l2 y (by simp)) r
     refine ⟨q,⟨q1,q2⟩,?_⟩
     show ((z4u k y r.At).bind fun (r23:(yl×Int))=>some (r23.1,r23.2))=some q
     rw [q3]; rfl
    ·exact six _ (by simp; omega) _ _
   ·rcases b with _ | ⟨y,_ | ⟨y2,b⟩⟩
    ·obtain ⟨q,q1,q2,q3⟩:=w8i hk h0 x (l1 x (by simp)) r.At
     refine ⟨q,⟨q1,q2⟩,?_⟩
     show ((z4t k x r.At).bind fun (r18:(yl×Int))=>some (r18.1,r18.2))=some q
     rw [q3]; rfl
    ·exact ⟨(xj,13),⟨rfl,by simp [xj]⟩,rfl⟩
    ·exact six _ (by simp; omega) _ _
   ·exact six _ (by simp; omega) _ _
  ·refine ⟨(xj,0),fun _ h=>absurd h h1,?_⟩
   rw [if_neg (by simpa using h0),if_pos (by simpa using h1),if_neg (not_not_intro h0),if_pos h1]; rfl
 ·refine ⟨(xj,0),fun h=>absurd h h0,?_⟩
  rw [if_pos (by simpa using h0),if_pos h0]; rfl
theorem w0l (c:yl) (h:c.Scopes.length≤1000000000):z5j c c=some true:=by
 unfold z5j z2q
 rw [if_pos (by simp),if_pos (by simp),w7a _ h]
 rfl
theorem w8f (L:List Int):y4f L=some true:=by
 refine y7r ?_
 unfold y4f
 have hs:SB 0 ⟨L,0⟩:=⟨by simp,by simp⟩
 refine yc (w24 hs (by omega)) fun r2 h2=>yc (w20 h2.2 (by omega) h2.1) fun r4 hr => ?_
 obtain ⟨hk,_⟩:=h2
 obtain ⟨e,e1,e2⟩:=w07 r4.1 (w0y (by omega) hr)
 obtain ⟨q,q1,q2⟩:=w8g hk hr e e1
 rw [q2,w64 _ hk,e2]
 simp only [Option.bind_some]
 rw [w68]
 simp only [Option.bind_some]
 have fin:∀ (c:yl) (n:Int),c.Scopes.length≤1000000000→Ok (z3j (c,n) n c.By c.Name c.Scopes) (· = true):=fun c n hc=>by
  unfold z3j z3i
  have hsm:z5j c (yl.mk c.By c.Name c.Scopes)=some true:=w0l c hc
  rw [if_pos (by simp),hsm]
  simp only [Option.bind_some,if_true,x94]
  exact yx rfl
 unfold or2
 by_cases h0:kpF r2.1=0
 ·by_cases h1:e=0
  ·obtain ⟨q3,q4⟩:=q1 h0 h1
   rw [if_neg (not_not_intro h0),if_neg (not_not_intro h0),if_neg (not_not_intro h1),if_pos (by simpa using h1),q3]
   simp only [Option.bind_some]
   exact fin q.1 q.2 q4
  ·rw [if_neg (not_not_intro h0),if_neg (not_not_intro h0),if_pos h1,if_neg (by simpa using h1)]
   exact fin xj e (by simp [xj])
 ·rw [if_pos h0,if_pos h0,if_neg (by simpa using h0)]
  exact fin xj (kpF r2.1) (by simp [xj])
end Go.Proofs.YtndabcepiekebaaGreatDoor
