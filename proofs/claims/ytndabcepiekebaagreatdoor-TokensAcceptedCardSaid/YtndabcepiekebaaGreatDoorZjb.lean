/- TokensAccepted: the plain law. -/
import Derived.Test.YtndabcepiekebaaGreatDoorWoZj
import Derived.Test.YtndabcepiekebaaGreatDoorCpZj
namespace Go.Proofs.YtndabcepiekebaaGreatDoor
set_option linter.unusedVariables false
set_option maxRecDepth 20000
abbrev xdL:Bs:=[48,49,50,51,52,53,54,55,56,57,97,98,99,100,101,102]
def xd (n:Nat):UInt8:=xdL.getD n 48
def xv (c:UInt8):Nat:=if c.toNat≤57 then c.toNat - 48 else c.toNat - 87
def isX (c:UInt8):Bool:=xdL.contains c
def hexF (u:Nat):Bs:=if h:u < 16 then [xd u] else hexF (u / 16)++[xd (u % 16)]
termination_by u
decreasing_by omega
def hvB (l:Bs):Nat:=l.foldl (fun a c=>a * 16+xv c) 0
def canX (s:Bs):Bool:=s.all isX && (decide (s=[48]) || decide (s.head?≠some 48∧s≠[]))
end Go.Proofs.YtndabcepiekebaaGreatDoor
namespace Go.Proofs.YtndabcepiekebaaGreatDoor
set_option linter.unusedVariables false
set_option linter.unusedSimpArgs false
set_option linter.unusedSectionVars false
set_option maxRecDepth 20000
structure RvB (l:List z0u):Prop where
 len:l.length≤1000
 id:∀ x,x∈l→x.Id.length≤1000
def gRv (x:z0u) (late:Bool):Int:=if (!keyP x.Id)=true then 5 else if late=true then 7 else if (outP x.At 0 x.Until || decide (345686400000 < x.Until))=true then 1 else 0
def rvF (l:List z0u):Int:=if 1000 < l.length then 2 else chR (fun x:z0u=>x.Id) gRv l []
theorem w9j (x:z0u):leB x.Id []=false∨∀ a b,gRv x a=gRv x b:=by
 cases h:keyP x.Id
 ·right; intro a b; simp [gRv,h]
 ·left; exact w7g h
theorem w0h (l:List z0u) (hl:RvB l):z8b l=some (rvF l):=by
 have hn:=hl.len
 unfold z8b rvF
 by_cases h1:1000 < l.length
 ·omega
 ·rw [if_neg (by simp; omega),if_neg h1,if_pos (by omega)]
  have h:=w3d (key:=fun x:z0u=>x.Id) (g:=gRv) (body:=fun k x s=>z71 k x s) (fin:=fun s=>z93 s) (r:=some 0) (fun _=>rfl) l 0 [] fun j x s hx=>by
   unfold z71 gRv
   rw [y7y x.Id (by have:=hl.id x hx; omega),w5l]
   simp only [Option.bind_some,Bool.not_not]
   show (if (!keyP x.Id)=true then _ else if leB x.Id s=true then _ else _)=_
   cases keyP x.Id
   ·rfl
   ·cases leB x.Id s
    ·cases (outP x.At 0 x.Until || decide (345686400000 < x.Until)) <;> rfl
    ·rfl
  rw [h]
  by_cases h2:chR (fun x:z0u=>x.Id) gRv l []=0
  ·rw [if_neg (not_not_intro h2),h2]
  ·rw [if_pos h2]
theorem w5w (l:List z0u) (hl:RvB l):y0c l=some (rvF l):=by
 have hn:=hl.len
 unfold y0c rvF
 by_cases h1:1000 < l.length
 ·omega
 ·rw [if_neg (by simp; omega),if_neg h1,if_pos (by omega)]
  have h:=w3e (key:=fun x:z0u=>x.Id) (g:=gRv) w9j l (body:=fun k x (s:Unit)=>z9s l k x) (fin:=fun (s:Unit)=>y1h) (r:=some 0) rfl l 0 [] (.inl ⟨rfl,rfl⟩) (fun j=>by rw [Nat.zero_add]) fun j x hx=>by
   have hk:=y1v hx
   have hJ:∀ b,z7r x b=if b=true then some (.inr 7) else if (outP x.At 0 x.Until || decide (345686400000 < x.Until))=true then some (.inr 1) else some (.inl ()):=fun b=>rfl
   unfold z9s gRv
   rw [y39 x.Id (by have:=hl.id x (List.mem_of_getElem? hx); omega)]
   simp only [Option.bind_some,hJ]
   have hlate:x0i (fun x:z0u=>x.Id) l j x=x0i (fun x:z0u=>x.Id) l j x:=rfl
   cases keyP x.Id
   ·rfl
   ·simp only [Bool.not_true,Bool.false_eq_true,if_false]
    by_cases h0:0 < j
    ·obtain ⟨y,hy⟩:∃ y,l[j - 1]?=some y:=⟨_,List.getElem?_eq_getElem (by omega)⟩
     have e3:x0i (fun x:z0u=>x.Id) l j x=leB x.Id y.Id:=by simp [x0i,h0,hy]
     have e2:decide (0 < (j:Int))=true:=by simpa using h0
     rw [e3,e2,w3n h0,hy]
     simp only [if_true,Option.bind_some]
     show (if leB x.Id y.Id=true then _ else _)=_
     cases leB x.Id y.Id
     ·cases (outP x.At 0 x.Until || decide (345686400000 < x.Until)) <;> rfl
     ·rfl
    ·have e3:x0i (fun x:z0u=>x.Id) l j x=false:=by simp [x0i,h0]
     have e2:decide (0 < (j:Int))=false:=by simpa using h0
     rw [e3,e2]
     simp only [Bool.false_eq_true,if_false]
     cases (outP x.At 0 x.Until || decide (345686400000 < x.Until)) <;> rfl
  rw [h]
  by_cases h2:chR (fun x:z0u=>x.Id) gRv l []=0
  ·rw [if_neg (not_not_intro h2),h2]
  ·rw [if_pos h2]
theorem x5g (p:UInt8→Bool):∀ l:Bs,l.dropWhile p=[]↔l.all p=true
 | []=>by simp
 | c::l=>by
  rw [List.dropWhile_cons,List.all_cons]
  cases h:p c
  ·simp
  ·simpa using x5g p l
theorem x88 (p:UInt8→Bool):∀ (l t:Bs) (c:UInt8),l.dropWhile p=c::t→p c=false
 | [],_,_,h=>by cases h
 | d::l,t,c,h=>by
  rw [List.dropWhile_cons] at h
  cases hd:p d
  ·rw [hd] at h
   have:d=c:=by simpa using (List.cons.inj h).1
   rw [← this]; exact hd
  ·rw [hd] at h
   exact x88 p l t c (by simpa using h)
theorem w2k (s:Bs):(Lib.trimS s xdL=[])↔s.all isX=true:=by
 unfold Lib.trimS Lib.trimLeftS Lib.trimRightS
 show (List.dropWhile isX (List.dropWhile isX s.reverse).reverse=[])↔_
 rw [x5g,List.all_reverse]
 constructor
 ·intro h
  cases hd:List.dropWhile isX s.reverse with
  | nil =>
   have:=(x5g isX s.reverse).1 hd
   rwa [List.all_reverse] at this
  | cons c t =>
   have h1:=x88 isX _ _ _ hd
   rw [hd] at h
   simp [h1] at h
 ·intro h
  rw [(x5g isX s.reverse).2 (by rw [List.all_reverse]; exact h)]; rfl
def smB (s:Bs):Bool:=decide (s.length=16) && s.all isX
theorem w5j (s:Bs):y4n s=some (smB s):=by
 unfold y4n y21 smB
 by_cases h:s.length=16
 ·rw [if_pos (by simp; omega)]
  unfold y3p
  rw [if_pos ⟨⟨by omega,by decide⟩,by decide⟩]
  simp only [Option.bind_some]
  have ht:=w2k s
  cases hx:s.all isX
  ·have:¬ Lib.trimS s xdL=[]:=fun h=>by rw [ht.1 h] at hx; cases hx
   simp [h,this]
  ·simp [h,ht.2 hx]
 ·rw [if_neg (by simp; omega)]
  simp [h]
theorem w28 (a b:Bs):z9w a b=some (cmpL a b):=by
 unfold z9w y08
 simp only [ne_eq,not_true_eq_false,decide_false,Option.bind_some,Bool.false_eq_true,if_false]
 rw [x1m]
 have hz:=y8p a b
 rcases w27 a b with h | h | h
 ·simp [h]
 ·have:=hz.1 h; subst this; simp [h]
 ·have:a≠b:=fun e=>by rw [hz.2 e] at h; cases h
  simp [h,this]
theorem w75 (a b c d:Bs):z36 [a,b] [c,d]=some (if cmpL a c≠0 then cmpL a c else cmpL b d):=by
 unfold z36
 rw [if_pos (by simp)]
 have h0:z2e [c,d] 0 a=if decide (cmpL a c≠0)=true then some (.inr (cmpL a c)) else some (.inl ()):=by
  unfold z2e
  simp [w28]
 have h1:z2e [c,d] 1 b=if decide (cmpL b d≠0)=true then some (.inr (cmpL b d)) else some (.inl ()):=by
  unfold z2e
  simp [w28]
 have hE:z5w [a,b] [c,d]=some 0:=rfl
 simp only [forL,h0,Nat.zero_add,h1,hE]
 by_cases e0:cmpL a c=0
 ·by_cases e1:cmpL b d=0 <;> simp [e0,e1,after]
 ·simp [e0,after]
def x0t (y x:z0y):Bool:=Op.bytesLess x.App y.App || (decide (x.App=y.App) && leB x.Sum y.Sum)
theorem w3h (y x:z0y):decide (0≤(if cmpL y.App x.App≠0 then cmpL y.App x.App else cmpL y.Sum x.Sum))=x0t y x:=by
 unfold x0t leB
 rw [x1m,x1m,x5m y.App x.App,x5m y.Sum x.Sum]
 have hz:=y8p y.App x.App
 have hz2:=y8p y.Sum x.Sum
 by_cases e:y.App=x.App
 ·have e0:=hz.2 e
  by_cases e2:y.Sum=x.Sum
  ·simp [e,hz2.2 e2,e2,(y8p x.App x.App).2 rfl,(y8p x.Sum x.Sum).2 rfl]
  ·have n2:cmpL y.Sum x.Sum≠0:=fun h=>e2 (hz2.1 h)
   have e3:¬ x.Sum=y.Sum:=fun h=>e2 h.symm
   rw [if_neg (not_not_intro e0),e0]
   simp only [Int.neg_zero,Int.lt_irrefl,decide_false,Bool.false_or]
   have e4:x.App=y.App:=e.symm
   simp only [e4,decide_true,Bool.true_and]
   have e5:(x.Sum == y.Sum)=false:=by simpa using e3
   rw [e5]
   by_cases p:0≤cmpL y.Sum x.Sum
   ·rw [decide_eq_true p,decide_eq_true (show - cmpL y.Sum x.Sum < 0 by omega)]
    simp
   ·rw [decide_eq_false p,decide_eq_false (show ¬ - cmpL y.Sum x.Sum < 0 by omega)]
    simp
 ·have n0:cmpL y.App x.App≠0:=fun h=>e (hz.1 h)
  have e3:¬ x.App=y.App:=fun h=>e h.symm
  rw [if_pos n0]
  by_cases p:0≤cmpL y.App x.App
  ·rw [decide_eq_true p,decide_eq_true (show - cmpL y.App x.App < 0 by omega)]
   rfl
  ·rw [decide_eq_false p,decide_eq_false (show ¬ - cmpL y.App x.App < 0 by omega),decide_eq_false e3]
   rfl
structure HoB (l:List z0y):Prop where
 len:l.length≤1000
 key:∀ x,x∈l→x.App.length≤1000∧x.Sum.length≤1000∧Sh x.Scopes
def x2q (l:List z0y) (k:Nat) (x:z0y):Bool:=decide (0 < k) && match l[k - 1]? with | some y=>x0t y x | none=>false
def ho1 (l:List z0y) (k:Nat) (x:z0y):Int:=
 if (!keyP x.App)=true then 5 else if (!smB x.Sum)=true then 3 else if x2q l k x=true then 7 else if scF x.Scopes≠0 then scF x.Scopes
 else if (outP x.From 0 x.To || decide (345686400000 < x.To))=true then 1 else 0
def hoF (l:List z0y):Int:=if 500 < l.length then 2 else feI (ho1 l) 0 l
theorem w9h (l:List z0y) (hl:HoB l) (k:Nat) (x:z0y) (hx:l[k]?=some x):y05 l (k:Int)=some (ho1 l k x):=by
 have hk:=y1v hx
 have hb:=hl.key x (List.mem_of_getElem? hx)
 have hn:=hl.len
 have hJ:∀ b,z4h x b=some (if b=true then 7 else if scF x.Scopes≠0 then scF x.Scopes else if (outP x.From 0 x.To || decide (345686400000 < x.To))=true then 1 else 0):=by
  intro b
  unfold z4h
  rw [w3c x.Scopes hb.2.2,w1s]
  simp only [Option.bind_some]
  cases b
  ·by_cases h2:scF x.Scopes=0
   ·simp only [h2,Bool.false_eq_true,if_false,ne_eq,not_true_eq_false,decide_false]
    cases (outP x.From 0 x.To || decide (345686400000 < x.To)) <;> rfl
   ·simp [h2]
  ·rfl
 unfold y05 ho1
 rw [x0a,hx]
 simp only [Option.bind_some]
 rw [y39 x.App (by omega),w5j]
 simp only [Option.bind_some,hJ]
 cases keyP x.App
 ·rfl
 ·cases smB x.Sum
  ·rfl
  ·simp only [Bool.not_true,Bool.false_eq_true,if_false]
   by_cases h0:0 < k
   ·obtain ⟨y,hy⟩:∃ y,l[k - 1]?=some y:=⟨_,List.getElem?_eq_getElem (by omega)⟩
    have e1:at? l (wr ((k:Int) - 1))=some y:=by
     rw [y3a (by omega),show (k:Int) - 1=((k - 1:Nat):Int) by omega,x0a]; exact hy
    have e3:x2q l k x=x0t y x:=by simp [x2q,h0,hy]
    rw [if_pos (by simpa using h0),e1,e3]
    simp only [Option.bind_some]
    unfold x0t
    show (if Op.bytesLess x.App y.App=true then _ else if decide (x.App=y.App)=true then some (if leB x.Sum y.Sum=true then _ else _) else _)=_
    cases Op.bytesLess x.App y.App
    ·cases decide (x.App=y.App)
     ·rfl
     ·rfl
    ·rfl
   ·have e3:x2q l k x=false:=by simp [x2q,h0]
    rw [if_neg (by simpa using h0),e3]
    rfl
theorem w9g (l:List z0y) (hl:HoB l) (k:Nat) (x:z0y) (hx:l[k]?=some x):z6l l k x=if ho1 l k x≠0 then some (.inr (ho1 l k x)) else some (.inl ()):=by
 have hk:=y1v hx
 have hb:=hl.key x (List.mem_of_getElem? hx)
 have hn:=hl.len
 have hJ:∀ b,z3n x b=if b=true then some (.inr 7) else if scF x.Scopes≠0 then some (.inr (scF x.Scopes)) else if (outP x.From 0 x.To || decide (345686400000 < x.To))=true then some (.inr 1) else some (.inl ()):=by
  intro b
  unfold z3n
  rw [x6s x.Scopes hb.2.2,w5l]
  simp only [Option.bind_some,Bool.not_not]
  cases b
  ·by_cases h2:scF x.Scopes=0
   ·simp [h2]
   ·simp [h2]
  ·rfl
 have h2:∀ b,z3o l k x b=if b=true then some (.inr 3) else z3n x (x2q l k x):=by
  intro b
  unfold z3o
  cases b
  ·simp only [Bool.false_eq_true,if_false]
   by_cases h0:0 < k
   ·obtain ⟨y,hy⟩:∃ y,l[k - 1]?=some y:=⟨_,List.getElem?_eq_getElem (by omega)⟩
    have e3:x2q l k x=x0t y x:=by simp [x2q,h0,hy]
    rw [if_pos (by simpa using h0),w3n h0,hy,e3]
    simp only [Option.bind_some,w75,w3h]
   ·have e3:x2q l k x=false:=by simp [x2q,h0]
    rw [if_neg (by simpa using h0),e3]
  ·rfl
 have hgo:z6l l k x=if (!keyP x.App)=true then some (.inr 5) else z3o l k x (!smB x.Sum):=by
  unfold z6l
  rw [y7y x.App (by omega),x49 x.Sum _ (by omega)]
  simp only [Option.bind_some]
  cases keyP x.App
  ·rfl
  ·simp only [Bool.not_true,Bool.false_eq_true,if_false]
   unfold smB
   by_cases h16:x.Sum.length=16
   ·rw [if_neg (by simp; omega),h16]
    rfl
   ·rw [if_pos (by simp; omega)]
    simp [h16]
 rw [hgo,h2,hJ]
 unfold ho1
 cases keyP x.App
 ·rfl
 ·cases smB x.Sum
  ·rfl
  ·cases x2q l k x
   ·by_cases h3:scF x.Scopes=0
    ·simp only [h3,Bool.not_true,Bool.false_eq_true,if_false,ne_eq,not_true_eq_false]
     cases (outP x.From 0 x.To || decide (345686400000 < x.To)) <;> rfl
    ·simp [h3]
   ·rfl
theorem w3b (l:List z0y) (hl:HoB l):z8j l=some (hoF l):=by
 have hn:=hl.len
 unfold z8j hoF
 by_cases h1:500 < l.length
 ·rw [if_pos (by simp; omega),if_pos h1]
 ·rw [if_neg (by simp; omega),if_neg h1,if_pos (by omega)]
  refine x0q rfl l 0 fun j x _ hx => ?_
  have hx:l[j]?=some x:=by simpa using hx
  unfold y1i
  rw [w9h l hl j x hx]
  simp only [Option.bind_some]
  by_cases h2:ho1 l j x=0 <;> simp [h2]
theorem x6r (l:List z0y) (hl:HoB l):z6s l=some (hoF l):=by
 have hn:=hl.len
 unfold z6s hoF
 by_cases h1:500 < l.length
 ·rw [if_pos (by simp; omega),if_pos h1]
 ·rw [if_neg (by simp; omega),if_neg h1,if_pos (by omega)]
  exact x0q rfl l 0 fun j x _ hx=>w9g l hl j x (by simpa using hx)
structure KeB (k:z1t):Prop where
 iss:k.Issuer.length≤1000
 aud:k.Audience.length≤1000
 sg:SgB k.Signers
 rv:RvB k.Revoked
 ho:HoB k.Holders
def kpF (k:z1t):Int:=if (!keyP k.Issuer || !keyP k.Audience)=true then 5 else if sgF k.Signers≠0 then sgF k.Signers else if rvF k.Revoked≠0 then rvF k.Revoked else if hoF k.Holders≠0 then hoF k.Holders else if outP k.Skew 0 600000=true then 1 else 0
theorem w9d {k:z1t} (h:kpF k=0):sgF k.Signers=0:=by
 unfold kpF at h
 split at h
 ·cases h
 ·split at h
  ·rename_i h1; exact absurd h h1
  ·rename_i h1; exact Decidable.of_not_not h1
theorem w3a (k:z1t) (hk:KeB k):z89 k=some (kpF k):=by
 have hJ:∀ b,z6y k b=some (if b=true then 5 else if sgF k.Signers≠0 then sgF k.Signers else if rvF k.Revoked≠0 then rvF k.Revoked else if hoF k.Holders≠0 then hoF k.Holders else if outP k.Skew 0 600000=true then 1 else 0):=by
  intro b
  unfold z6y
  rw [w29 _ hk.sg,w5w _ hk.rv,w3b _ hk.ho,w1s]
  simp only [Option.bind_some]
  cases b
  ·by_cases h1:sgF k.Signers=0
   ·by_cases h2:rvF k.Revoked=0
    ·by_cases h3:hoF k.Holders=0
     ·cases h4:outP k.Skew 0 600000 <;> simp [h1,h2,h3]
     ·simp [h1,h2,h3]
    ·simp [h1,h2]
   ·simp [h1]
  ·rfl
 unfold z89 kpF
 rw [y39 _ (by have:=hk.iss; omega),y39 _ (by have:=hk.aud; omega)]
 simp only [Option.bind_some,hJ]
 cases keyP k.Issuer
 ·rfl
 ·cases keyP k.Audience <;> rfl
theorem w2q (k:z1t) (hk:KeB k):z82 k=some (kpF k):=by
 have hL:∀ j e,z8f j e=if e≠0 then some (.inr e) else some (.inl ()):=fun j e=>by
  unfold z8f
  by_cases h:e=0 <;> simp [h]
 have hJ:∀ b,z5g k b=some (if b=true then 5 else if sgF k.Signers≠0 then sgF k.Signers else if rvF k.Revoked≠0 then rvF k.Revoked else if hoF k.Holders≠0 then hoF k.Holders else if outP k.Skew 0 600000=true then 1 else 0):=by
  intro b
  unfold z5g
  rw [w2p _ hk.sg,w0h _ hk.rv,x6r _ hk.ho]
  simp only [Option.bind_some,forL,hL]
  unfold y0j
  rw [w5l]
  simp only [Option.bind_some,Bool.not_not]
  cases b
  ·rw [if_neg (by simp),if_pos (by simp)]
   by_cases h1:sgF k.Signers=0
   ·by_cases h2:rvF k.Revoked=0
    ·by_cases h3:hoF k.Holders=0
     ·cases h4:outP k.Skew 0 600000 <;> simp [h1,h2,h3,after]
     ·simp [h1,h2,h3,after]
    ·simp [h1,h2,after]
   ·simp [h1,after]
  ·rfl
 unfold z82 kpF
 rw [y7y _ (by have:=hk.iss; omega),y7y _ (by have:=hk.aud; omega)]
 simp only [Option.bind_some,hJ]
 cases keyP k.Issuer
 ·rfl
 ·cases keyP k.Audience <;> rfl
theorem x90 {k:Int} {s:z0d} (h:SB k s) (hk:k≤100000):Ok (z7d s) fun r=>RvB r.1∧SB (k+20) r.2:=by
 unfold z7d
 refine ok_g (by simp) (x0h (fun (j:Nat) (q:(List Int)×Int×(List z0u))=>SB (k+3 * (j:Int)) ⟨q.1,q.2.1⟩∧q.2.2.length≤j∧∀ x,x∈q.2.2→x.Id.length≤1000) _ 0 _ ⟨by simpa using h,by simp,by simp⟩ ?_ ?_)
 ·rintro j x ⟨c,d,l⟩ _ hx ⟨q1,q2,q3⟩
  simp only at q1 q2 q3
  have hx:([[116,48],[116,49],[116,50]]:List Bs)[j]?=some x:=by simpa using hx
  have hj:=y1v hx
  have hxl:=y4e (List.mem_of_getElem? hx) (by decide)
  simp only [List.length_cons,List.length_nil] at hj
  unfold z8r z42
  refine z08 (y4w q1 (by omega) _ (by omega)) fun r24 h24=>y4d (fun _ => ?_) (fun _=>z1v ⟨h24.mono (by omega),by simp only; omega,q3⟩)
  refine z08 (y4k h24 (by omega) _ ⟨by simp,by simp⟩) fun r27 h27=>z08 (y4k h27.2 (by omega) _ ⟨by simp,by simp⟩) fun r29 h29=>ok_g (by simp only; omega) (z1v ⟨h29.2.mono (by omega),by simp; omega,fun y hy => ?_⟩)
  rcases List.mem_append.1 hy with hy | hy
  ·exact q3 y hy
  ·simp only [List.mem_singleton] at hy
   subst hy
   show x.length≤1000
   omega
 ·rintro ⟨c,d,l⟩ ⟨q1,q2,q3⟩
  simp only [List.length_cons,List.length_nil] at q1 q2 q3
  unfold z8s z43
  refine z08 (y4w q1 (by omega) _ (by omega)) fun r9 h9=>y4d (fun _ => ?_) (fun _=>z1v ⟨⟨by simp only; omega,q3⟩,h9.mono (by omega)⟩)
  refine z08 (y16 h9 (by omega) _ ⟨by simp,by simp⟩) fun r12 h12=>z08 (x33 h12.2 (by omega) _ _ (by omega)) fun r14 h14=>z08 (x33 h14.2 (by omega) _ _ (by omega)) fun r16 h16=>ok_g (by simp only; omega) (z1v ⟨⟨by simp; omega,fun y hy => ?_⟩,h16.2.mono (by omega)⟩)
  rcases List.mem_append.1 hy with hy | hy
  ·exact q3 y hy
  ·simp only [List.mem_singleton] at hy
   subst hy
   show r12.1.length≤1000
   have:=y4e h12.1 (by decide)
   omega
theorem x9w (l:List Bs) (h:l.length≤1000000):z3a l=some (x40 l):=by
 unfold z3a
 rw [if_pos (by omega)]
theorem w0f {k:Int} {s:z0d} (h:SB k s) (hk:k≤90000):Ok (z7e s) fun r=>HoB r.1∧SB (k+120) r.2:=by
 unfold z7e
 refine ok_g (by simp) (x0h (fun (j:Nat) (q:(List Int)×Int×(List z0y))=>SB (k+40 * (j:Int)) ⟨q.1,q.2.1⟩∧q.2.2.length≤2 * j∧∀ x,x∈q.2.2→x.App.length≤1000∧x.Sum.length≤1000∧Sh x.Scopes) _ 0 _ ⟨by simpa using h,by simp,by simp⟩ ?_ ?_)
 ·rintro j x ⟨c,d,l⟩ _ hx ⟨q1,q2,q3⟩
  simp only at q1 q2 q3
  have hx:([[97,112,112,49],[97,112,112,50]]:List Bs)[j]?=some x:=by simpa using hx
  have hj:=y1v hx
  have hxl:=y4e (List.mem_of_getElem? hx) (by decide)
  simp only [List.length_cons,List.length_nil] at hj
  unfold z8v
  refine ok_g (by simp) (x0h (fun (i:Nat) (q:(List Int)×Int×(List Bs))=>SB (k+40 * (j:Int)+(i:Int)) ⟨q.1,q.2.1⟩∧q.2.2.length≤i∧∀ x,x∈q.2.2→x.length≤1000) _ 0 _ ⟨by simpa using q1,by simp,by simp⟩ ?_ ?_)
  ·rintro i y ⟨c1,d1,l1⟩ _ hy ⟨p1,p2,p3⟩
   simp only at p1 p2 p3
   have hy:([[107,101,121,45,49],[107,101,121,45,50]]:List Bs)[i]?=some y:=by simpa using hy
   have hi:=y1v hy
   have hyl:=y4e (List.mem_of_getElem? hy) (by decide)
   simp only [List.length_cons,List.length_nil] at hi
   unfold z8u z44
   refine z08 (y4w p1 (by omega) _ (by omega)) fun r53 h53=>y4d (fun _ => ?_) (fun _=>z1v ⟨h53.mono (by omega),by simp only; omega,p3⟩)
   refine z08 (x4u _ _ (by simp) (by omega)) fun r56 h56=>ok_g (by simp only; omega) (z1v ⟨h53.mono (by omega),by simp; omega,fun z hz => ?_⟩)
   rcases List.mem_append.1 hz with hz | hz
   ·exact p3 z hz
   ·simp only [List.mem_singleton] at hz
    subst hz
    omega
  ·rintro ⟨c1,d1,l1⟩ ⟨p1,p2,p3⟩
   simp only [List.length_cons,List.length_nil] at p1 p2 p3
   unfold z8x
   rw [x9w l1 (by omega)]
   simp only [Option.bind_some]
   have hsl:=x56 l1
   refine ok_g (by omega) (x8z (fun (i:Nat) (q:(List Int)×Int×(List z0y))=>SB (k+40 * (j:Int)+2+8 * (i:Int)) ⟨q.1,q.2.1⟩∧q.2.2.length≤2 * j+i∧∀ x,x∈q.2.2→x.App.length≤1000∧x.Sum.length≤1000∧Sh x.Scopes) _ 0 _ ⟨by simpa using p1,by simpa using q2,q3⟩ ?_ ?_)
   ·rintro i ⟨c2,d2,l2⟩ _ hi ⟨n1,n2,n3⟩
    simp only at n1 n2 n3
    unfold z8t
    have hi:i < (x40 l1).length:=by omega
    rw [List.getElem?_eq_getElem hi]
    simp only [Option.bind_some]
    have hmem:=(x55 l1 _).1 (List.getElem_mem hi)
    generalize (x40 l1)[i]=z at hmem
    have hz:=p3 z hmem
    refine z08 (y4k n1 (by omega) _ ⟨by simp,by simp⟩) fun r44 h44=>z08 (x0g h44.2 (by omega)) fun r46 h46=>z08 (y4k h46.2 (by omega) _ ⟨by simp,by simp⟩) fun r48 h48=>ok_g (by omega) (z1v ⟨h48.2.mono (by omega),by simp; omega,fun y hy => ?_⟩)
    rcases List.mem_append.1 hy with hy | hy
    ·exact n3 y hy
    ·simp only [List.mem_singleton] at hy
     subst hy
     exact ⟨by show x.length≤1000; omega,hz,by have:=h46.1.1; show r46.1.length≤1000000; omega,fun w hw=>by have:=h46.1.2 w hw; omega⟩
   ·rintro ⟨c2,d2,l2⟩ ⟨n1,n2,n3⟩
    simp only at n1 n2 n3
    unfold z8w
    exact z1v ⟨n1.mono (by omega),by simp only; omega,n3⟩
 ·rintro ⟨c,d,l⟩ ⟨q1,q2,q3⟩
  simp only [List.length_cons,List.length_nil] at q1 q2 q3
  unfold z8y z45
  refine z08 (y4w q1 (by omega) _ (by omega)) fun r9 h9=>y4d (fun _ => ?_) (fun _=>z1v ⟨⟨by simp only; omega,q3⟩,h9.mono (by omega)⟩)
  refine z08 (y16 h9 (by omega) _ ⟨by simp,by simp⟩) fun r12 h12=>z08 (y16 h12.2 (by omega) _ ⟨by simp,by simp⟩) fun r14 h14=>z08 (w1l h14.2 (by omega)) fun r16 h16=>z08 (x33 h16.2 (by omega) _ _ (by omega)) fun r18 h18=>ok_g (by simp only; omega) (z1v ⟨⟨by simp; omega,fun y hy => ?_⟩,h18.2.mono (by omega)⟩)
  rcases List.mem_append.1 hy with hy | hy
  ·exact q3 y hy
  ·simp only [List.mem_singleton] at hy
   subst hy
   have l12:=y4e h12.1 (by decide)
   have l14:r14.1.length≤1000:=by
    have:=h14.1
    simp only [List.mem_cons,List.not_mem_nil,or_false] at this
    rcases this with h | h | h <;> rw [h] <;> decide
   exact ⟨by show r12.1.length≤1000; omega,l14,h16.1.2⟩
theorem w2d {k:Int} {s:z0d} (h:SB k s) (hk:k≤80000):Ok (z7x s) fun r=>KeB r.1∧SB (k+200) r.2:=by
 unfold z7x
 refine z08 (x9y h (by omega)) fun r2 h2=>z08 (x90 h2.2 (by omega)) fun r4 h4=>z08 (w0f h4.2 (by omega)) fun r6 h6=>z08 (y4k h6.2 (by omega) _ ⟨by simp,by simp⟩) fun r8 h8=>z08 (y4w h8.2 (by omega) _ (by omega)) fun r10 h10 => ?_
 unfold z55
 refine y4d (fun _ => ?_) (fun _=>z1v ⟨⟨by simp,by simp,h2.1,h4.1,h6.1⟩,h10.mono (by omega)⟩)
 refine z08 (y16 h10 (by omega) _ ⟨by simp,by simp⟩) fun r13 h13=>z08 (y16 h13.2 (by omega) _ ⟨by simp,by simp⟩) fun r15 h15=>z08 (x33 h15.2 (by omega) _ _ (by omega)) fun r17 h17=>z1v ⟨⟨?_,?_,h2.1,h4.1,h6.1⟩,h17.2.mono (by omega)⟩
 ·show r13.1.length≤1000
  have:=y4e h13.1 (by decide)
  omega
 ·show r15.1.length≤1000
  have:=y4e h15.1 (by decide)
  omega
theorem w74 (l:List Bs) (v:Bs) (h:l.length≤1000000000):z12 l v=some (l.any fun x=>decide (v=x)):=
 y9l l (p:=fun x=>some (decide (v=x))) (fun x=>decide (v=x)) h fun _ _=>rfl
theorem w0n {k:z1t} (hk:KeB k) (h0:kpF k=0) (t:Bs) (ht:t.length≤400000) (v:Int):∃ r,y07 k t v=some r∧ClB r.1∧y1t k t v=some r:=by
 obtain ⟨o,o1,o2,o3⟩:=w5a hk.sg t ht v
 rw [if_neg (not_not_intro (w9d h0))] at o3
 have J1:∀ b,∃ r,z58 k v o b=some r∧ClB r.1∧z9q k v o b=some r:=by
  intro b
  have hc:z1p k.Revoked (fun (a0:z0u)=>y2v a0 o.1 v)=some (k.Revoked.any fun r1=>((decide (r1.Id=o.1.Id)) || (decide (r1.Id=o.1.Parent))) && (decide (r1.At≤v))):=
   y9l k.Revoked _ (by have:=hk.rv.len; omega) fun x _=>rfl
  have hd:z1p k.Revoked (fun (a0:z0u)=>z9v a0 o.1 v)=some (k.Revoked.any fun r1=>((decide (r1.Id=o.1.Id)) || (decide (r1.Id=o.1.Parent))) && (decide (r1.At≤v))):=
   y9l k.Revoked _ (by have:=hk.rv.len; omega) fun x _=>rfl
  unfold z58 z9q
  rw [hc,hd]
  simp only [Option.bind_some]
  generalize (k.Revoked.any fun r1=>((decide (r1.Id=o.1.Id)) || (decide (r1.Id=o.1.Parent))) && (decide (r1.At≤v)))=c
  generalize ((decide (v < (wr (o.1.From - k.Skew)))) || (decide ((wr (o.1.To+k.Skew))≤v)))=d
  cases b
  ·cases d
   ·cases c
    ·exact ⟨_,rfl,o2,rfl⟩
    ·exact ⟨_,rfl,y2h,rfl⟩
   ·exact ⟨_,rfl,y2h,rfl⟩
  ·exact ⟨_,rfl,y2h,rfl⟩
 unfold y07 y1t
 rw [o1,o3]
 simp only [Option.bind_some]
 rw [w74 _ _ (by have:=o2.aud.1; omega)]
 simp only [Option.bind_some]
 cases decide (o.2≠0)
 ·simp only [Bool.false_eq_true,if_false]
  cases decide (o.1.Issuer≠k.Issuer)
  ·simp only [Bool.false_eq_true,if_false]
   cases decide (0 < (o.1.Audience.length:Int))
   ·simp only [Bool.false_eq_true,if_false]
    exact J1 _
   ·simp only [if_true]
    exact J1 _
  ·simp only [if_true]
   exact J1 _
 ·exact ⟨_,rfl,y2h,rfl⟩
theorem w3w {k:z1t} (hk:KeB k) (t:Bs) (v:Int):y34 k t v=if kpF k≠0 then some (y66,kpF k) else y1t k t v:=by
 unfold y34
 rw [w3a k hk]
 simp only [Option.bind_some]
 by_cases h:kpF k=0
 ·rw [if_neg (by simpa using h),if_neg (not_not_intro h)]
  cases y1t k t v <;> rfl
 ·rw [if_pos (by simpa using h),if_pos h]
  rfl
end Go.Proofs.YtndabcepiekebaaGreatDoor
namespace Go.Proofs.YtndabcepiekebaaGreatDoor
set_option linter.unusedVariables false
set_option linter.unusedSimpArgs false
set_option maxRecDepth 20000
theorem y8r (L:List Int):z9n L=some true:=by
 refine w68 ?_
 unfold z9n
 have hs:SB 0 ⟨L,0⟩:=⟨by simp,by simp⟩
 refine z08 (w2d hs (by omega)) fun r2 h2=>z08 (w1v h2.2 (by omega)) fun r4 h4 => ?_
 obtain ⟨hk,_⟩:=h2
 rw [w2q _ hk,w3b _ hk.ho,x6r _ hk.ho,w3a _ hk]
 simp only [Option.bind_some,ne_eq,not_true_eq_false,decide_false,Bool.false_eq_true,if_false]
 have J3:∀ (c:z0e) (e:Int),ClB c→Ok (z3y (c,e) e c.Id c.Subject c.Issuer c.Parent c.Audience c.Scopes c.From c.To) (· = true):=fun c e hc=>by
  unfold z3y z3x
  have hsm:z7s c (z0e.mk c.Id c.Subject c.Issuer c.Parent c.Audience c.Scopes c.From c.To)=some true:=w6z c hc
  rw [if_pos (by simp),hsm]
  simp only [Option.bind_some,if_true,w1e]
  exact z1v rfl
 have J2:∀ t:Bs,t.length≤400000→Ok (z3z r2 r4 (kpF r2.1) t) (· = true):=fun t ht=>by
  unfold z3z
  rw [w3w hk]
  by_cases h0:kpF r2.1=0
  ·obtain ⟨r,a1,a2,a3⟩:=w0n hk h0 t ht r4.1
   rw [if_neg (not_not_intro h0),a3]
   simp only [Option.bind_some]
   rw [if_pos (by simpa using h0),a1]
   simp only [Option.bind_some]
   exact J3 r.1 r.2 a2
  ·rw [if_pos h0]
   simp only [Option.bind_some]
   rw [if_neg (by simpa using h0)]
   exact J3 y66 (kpF r2.1) y2h
 unfold z47
 rw [if_neg (by simp)]
 refine y4d (fun _ => ?_) (fun _=>J2 _ (by simp))
 exact z08 (x3y h4 (by omega)) fun r20 h20=>z08 (y4k h20.2 (by omega) _ ⟨by simp,by simp⟩) fun r22 h22=>z08 (x3h h22.2 (by omega) hk.sg h20.1 _) fun r24 h24=>J2 _ (by have:=h24.1; omega)
end Go.Proofs.YtndabcepiekebaaGreatDoor
