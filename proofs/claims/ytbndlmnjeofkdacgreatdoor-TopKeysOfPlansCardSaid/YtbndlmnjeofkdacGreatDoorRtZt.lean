/- Plain: what is written is read again: sums are sixteen signs, encoded bytes, the text of claims. -/
import Derived.Test.YtbndlmnjeofkdacGreatDoorVbZt
import Derived.Test.YtbndlmnjeofkdacGreatDoorWoZt
import Derived.Test.YtbndlmnjeofkdacGreatDoorRng
import Derived.Test.YtbndlmnjeofkdacGreatDoorEgZt
namespace Go.Proofs.YtbndlmnjeofkdacGreatDoor
set_option linter.unusedVariables false
set_option maxRecDepth 20000
abbrev ddL:Bs:=[48,49,50,51,52,53,54,55,56,57]
def isD (c:UInt8):Bool:=ddL.contains c
def dv (c:UInt8):Nat:=c.toNat - 48
def dgD (n:Nat):UInt8:=UInt8.ofNat (48+n)
theorem x2c (c:UInt8) (h:isD c=true):dgD (dv c)=c∧dv c < 10∧(dv c=0→c=48)∧48≤c.toNat∧c.toNat≤57:=by
 have:=Qq (fun c => !isD c || decide (dgD (dv c)=c∧dv c < 10∧(dv c=0→c=48)∧48≤c.toNat∧c.toNat≤57)) (by decide +kernel) c
 rw [h] at this
 exact of_decide_eq_true (by simpa only [Bool.not_true,Bool.false_or] using this)
def nvB (l:Bs):Nat:=l.foldl (fun a c=>a * 10+dv c) 0
theorem w6q (l:Bs) (c:UInt8):nvB (l++[c])=nvB l * 10+dv c:=by simp [nvB,List.foldl_append]
theorem w6r:∀ (k:Nat) (s:Bs),s.all isD=true→s.length≤k→nvB s < 10 ^ k:=by
 intro k
 induction k with
 | zero=>intro s _ h; obtain rfl:s=[]:=List.length_eq_zero_iff.1 (by omega); decide
 | succ k ih =>
  intro s
  refine y2n (P:=fun s=>s.all isD=true→s.length≤k+1→nvB s < 10 ^ (k+1)) (fun _ _=>Nat.pow_pos (by decide)) (fun p d _ h1 h2 => ?_) s
  simp only [List.all_append,List.all_cons,List.all_nil,Bool.and_true,Bool.and_eq_true] at h1
  have h3:=ih p h1.1 (by simp at h2; omega)
  have h4:=(x2c d h1.2).2.1
  rw [w6q,Nat.pow_succ]
  omega
theorem atL (E:Int→Option (Int×Int)):∀ (s:Bs) (k j v:Nat),s.all isD=true→j+s.length≤18→v < 10 ^ j →
  forL (fun (k:Nat) (x:Int) (q:Int)=>z5n k x q) E k (jd s) (v:Int)=E ((s.foldl (fun a c=>a * 10+dv c) v:Nat):Int)
 | [],k,j,v,_,_,_=>rfl
 | c::s,k,j,v,h,hj,hv=>by
  simp only [List.all_cons,Bool.and_eq_true] at h
  simp only [List.length_cons] at hj
  obtain ⟨_,hd,_,hc1,hc2⟩:=x2c c h.1
  have h9:10 ^ j≤10 ^ 17:=Nat.pow_le_pow_right (by decide) (by omega)
  have e17:(10:Nat) ^ 17=100000000000000000:=by decide
  have ew:IntKind.wrap .u8 ((c.toNat:Int) - 48)=(dv c:Int):=by
   have:=Qq (fun c => !isD c || decide (IntKind.wrap .u8 ((c.toNat:Int) - 48)=(dv c:Int))) (by decide +kernel) c
   rw [h.1] at this
   exact of_decide_eq_true (by simpa only [Bool.not_true,Bool.false_or] using this)
  have ei:IntKind.wrap .i64 (dv c:Int)=(dv c:Int):=ww (by omega)
  have e1:wr ((v:Int) * 10)=(v:Int) * 10:=ww (by omega)
  have e2:wr ((v:Int) * 10+(dv c:Int))=((v * 10+dv c:Nat):Int):=by rw [ww (by omega)]; omega
  show (z5n k (c.toNat:Int) (v:Int)).bind _=_
  unfold z5n
  rw [ew,if_neg (by simp; omega),ei,e1,e2]
  simp only [Option.bind_some,after]
  exact (atL E s (k+1) (j+1) (v * 10+dv c) h.2 (by omega) (by rw [Nat.pow_succ]; omega)).trans rfl
theorem atJ (s t:Bs) (ht:t.all isD=true) (hl:t.length≤17):z2b s t=z2c s (nvB t:Int):=by
 unfold z2b
 rw [if_pos (by rw [w6s]; omega)]
 exact atL (fun q=>z2c s q) t 0 0 0 ht (by omega) (by decide)
theorem d43 (c:UInt8) (h:isD c=true):(c.toNat:Int)≠45∧(c.toNat:Int)≠43:=by
 have:=(x2c c h).2.2.2
 omega
theorem v5o (t:Bs) (ht:t.all isD=true) (hne:t≠[]) (hl:t.length≤17):Wq t=some ((nvB t:Int),0):=by
 have hi:z11 t=some ((nvB t:Int),0):=by
  cases t with
  | nil=>exact absurd rfl hne
  | cons c r =>
   have hc:isD c=true:=by simp only [List.all_cons,Bool.and_eq_true] at ht; exact ht.1
   have h4:=d43 c hc
   unfold z11
   rw [if_pos (by simp at hl ⊢; omega)]
   simp only [List.getElem?_cons_zero,Option.bind_some]
   rw [if_neg (by simpa using h4.1)]
   unfold z2a
   rw [if_neg (by simpa using h4.2),atJ _ _ ht hl]
   unfold z2c z19
   simp only [List.getElem?_cons_zero,Option.bind_some]
   rw [if_neg (by simpa using h4.1)]
 unfold Wq
 rw [hi]; rfl
theorem v5p (t:Bs) (ht:t.all isD=true) (hne:t≠[]) (hl:t.length≤17):Wq (45::t)=some (-(nvB t:Int),0):=by
 have hln:1≤t.length:=by cases t with | nil=>exact absurd rfl hne | cons _ _=>simp
 have hv:=w6r 17 t ht hl
 have e17:(10:Nat) ^ 17=100000000000000000:=by decide
 have hi:z11 (45::t)=some (-(nvB t:Int),0):=by
  have hsub:sub? ((45:UInt8)::t) 1 (((45:UInt8)::t).length:Int)=some t:=by
   unfold sub?
   rw [if_pos (by simp only [List.length_cons]; omega),List.take_of_length_le (by simp)]; rfl
  unfold z11
  rw [if_pos (by simp at hl ⊢; omega)]
  simp only [List.getElem?_cons_zero,Option.bind_some]
  rw [if_pos (by decide)]
  unfold z2a
  rw [if_pos rfl,hsub]
  simp only [Option.bind_some]
  rw [if_neg (by simp; omega),atJ _ _ ht hl]
  unfold z2c z19
  simp only [List.getElem?_cons_zero,Option.bind_some]
  rw [if_pos (by decide),if_pos (by omega)]
 unfold Wq
 rw [hi]; rfl
def tlB (s:Bs):Bs:=Lib.trimPrefix s [45]
def valB (s:Bs):Int:=if s.head?=some 45 then -(nvB (tlB s):Int) else (nvB s:Int)
def okN (m:Nat) (s:Bs):Bool:=(tlB s).all isD && (decide (tlB s≠[]∧(tlB s).length≤m) && decide ((tlB s).head?≠some 48∨s=[48]))
theorem x5a (c:UInt8) (r:Bs):tlB (c::r)=if c=45 then r else c::r:=by
 unfold tlB Lib.trimPrefix Lib.hasPrefix
 by_cases h:c=45
 ·subst h; simp [List.isPrefixOf]
 ·have:((45:UInt8) == c)=false:=by simpa using fun e:(45:UInt8)=c=>h e.symm
  simp [List.isPrefixOf,this,h]
theorem w0x (r:Bs):valB (45::r)=-(nvB r:Int):=by simp [valB,x5a]
theorem w0w (c:UInt8) (r:Bs) (h:c≠45):valB (c::r)=(nvB (c::r):Int):=by simp [valB,h]
theorem v5n (s:Bs) (ht:(tlB s).all isD=true) (hne:tlB s≠[]) (hl:(tlB s).length≤17):Wq s=some (valB s,0):=by
 cases s with
 | nil=>exact absurd rfl hne
 | cons c r =>
  rw [x5a] at ht hne hl
  by_cases h:c=45
  ·subst h
   rw [if_pos rfl] at ht hne hl
   rw [w0x]
   exact v5p r ht hne hl
  ·rw [if_neg h] at ht hne hl
   rw [w0w c r h]
   exact v5o (c::r) ht hne hl
theorem x9m {α ρ:Type} {body:Nat→α→Unit→Option (Unit ⊕ ρ)} {fin:Unit→Option ρ} {p:α→Bool} {r0:ρ} (h:∀ j x,body j x ()=if p x then some (.inl ()) else some (.inr r0)):∀ (l:List α) (k:Nat),l.all p=false→forL body fin k l ()=some r0
 | [],k,hl=>by cases hl
 | x::l,k,hl=>by
  show (body k x ()).bind _=_
  rw [h k x]
  cases hp:p x
  ·simp [after]
  ·rw [List.all_cons,hp,Bool.true_and] at hl
   simp only [if_true,Option.bind_some,after]
   exact x9m h l (k+1) hl
theorem w2p (s:Bs):(tlB s).length≤s.length:=by
 unfold tlB Lib.trimPrefix
 split
 ·simp
 ·exact Nat.le_refl _
theorem w7t (s:Bs) (m:Nat) (hm:m≤17) (hs:s.length≤1000000):Wu s (m:Int)=some (if okN m s then valB s else 0,okN m s):=by
 have hJ:uv s (tlB s) true=some (0,false):=rfl
 have htl:=w2p s
 have hb:∀ (j:Nat) (x:UInt8),z90 j x=if isD x then some (.inl ()) else some (.inr (0,false)):=fun j x=>by
  have:=Qq (fun x=>decide (z90 0 x=if isD x then some (.inl ()) else some (.inr (0,false)))) (by decide +kernel) x
  exact of_decide_eq_true this
 unfold Wu y3u
 simp only [Option.bind_some]
 show (if decide (tlB s=[]) then uv s (tlB s) true else if decide ((m:Int) < ((tlB s).length:Int)) then uv s (tlB s) true else ((tlB s)[0]?).bind fun x9=>if decide ((x9.toNat:Int)=48) then uv s (tlB s) (decide (s≠[48])) else uv s (tlB s) false)=_
 by_cases h0:tlB s=[]
 ·rw [if_pos (by simpa using h0),hJ]
  have:okN m s=false:=by unfold okN; rw [h0]; simp
  rw [this]; rfl
 rw [if_neg (by simpa using h0)]
 by_cases hl:m < (tlB s).length
 ·rw [if_pos (by simp; omega),hJ]
  have:okN m s=false:=by
   unfold okN
   rw [show decide (tlB s≠[]∧(tlB s).length≤m)=false from by simp; intro; omega]
   simp
  rw [this]; rfl
 rw [if_neg (by simp; omega)]
 have hlm:decide (tlB s≠[]∧(tlB s).length≤m)=true:=by simp only [decide_eq_true_eq]; exact ⟨h0,by omega⟩
 have hall:uv s (tlB s) false=some (if (tlB s).all isD then valB s else 0,(tlB s).all isD):=by
  unfold uv
  rw [if_neg (by simp),if_pos (by omega)]
  cases hd:(tlB s).all isD
  ·exact x9m (p:=isD) hb (tlB s) 0 hd
  ·have hf:z5g s=some (valB s,true):=by
    unfold z5g
    rw [v5n s hd h0 (by omega)]; rfl
   rw [Zb (fin:=fun (s_1:Unit)=>z5g s) (e:=(valB s,true)) (p:=fun _ c=>isD c) (r0:=(0,false)) hf (tlB s) 0 (fun j x _ _=>hb j x),z2q,hd]
   rfl
 cases hc:tlB s with
 | nil=>exact absurd hc h0
 | cons c r =>
  rw [hc] at hall hlm h0
  simp only [List.getElem?_cons_zero,Option.bind_some]
  have hok:okN m s=((c::r).all isD && decide ((c::r).head?≠some 48∨s=[48])):=by
   unfold okN
   rw [hc,hlm]; simp
  by_cases h48:c=48
  ·rw [if_pos (by rw [h48]; decide)]
   by_cases hs48:s=[48]
   ·rw [show decide (s≠[48])=false from by simpa using hs48,hall,hok]
    simp [hs48]
   ·rw [show decide (s≠[48])=true from by simpa using hs48]
    have:okN m s=false:=by rw [hok]; simp [h48,hs48]
    rw [this]; rfl
  ·have hcn:¬ ((c.toNat:Int)=48):=fun h=>h48 (UInt8.toNat_inj.1 (by simp; omega))
   rw [if_neg (by simpa using hcn),hall,hok]
   simp [h48]
set_option linter.unusedSimpArgs false
set_option maxRecDepth 20000
set_option linter.unusedSectionVars false
set_option maxRecDepth 20000
structure CWB (c:qg):Prop where
 id:c.Id.length≤1000000
 subject:c.Subject.length≤1000000
 issuer:c.Issuer.length≤1000000
 parent:c.Parent.length≤1000000
 aud:c.Audience.length≤50∧∀ x,x∈c.Audience→x.length≤1000000
 sc:c.Scopes.length≤50∧∀ x,x∈c.Scopes→x.length≤1000000
 fr:0≤c.From∧c.From≤345686400000
 tu:0≤c.To∧c.To≤345686400000
section
variable {c:qg} (h:CWB c)
include h
end
def kd (x:Bs):Nat:=if x=[105,100] then 0 else if x=[115,117,98,106,101,99,116] then 1 else if x=[105,115,115,117,101,114] then 2 else if x=[112,97,114,101,110,116] then 3 else if x=[102,111,114] then 4 else if x=[109,97,121] then 5 else if x=[116,105,109,101] then 6 else 7
section
variable {Ls:List Bs} {e:Bool} (hn:Ls.length≤10000) (hp:∀ x,x∈Ls→x.length≤10000)
include hn hp
end
structure CSm (c:qg):Prop where
 id:c.Id.length≤10
 subject:c.Subject.length≤10
 issuer:c.Issuer.length≤10
 parent:c.Parent.length≤10
 aud:c.Audience.length≤5∧∀ x,x∈c.Audience→x.length≤1000
 sc:c.Scopes.length≤5∧∀ x,x∈c.Scopes→x.length≤1000
 fr:0≤c.From∧c.From≤1000
 tu:0≤c.To∧c.To≤1000

def badB (c:UInt8):Bool:=decide ((c.toNat:Int) < 33) || decide (126 < (c.toNat:Int))
def secF (s:Bs):Int:=if s=[]∨s.any badB=true then 3 else if 100 < s.length then 2 else 0
theorem v5v (s:Bs):(s.all fun c => !badB c) = !s.any badB:=by
 induction s with
 | nil=>rfl
 | cons c s ih=>simp only [List.all_cons,List.any_cons,ih,Bool.not_or]
theorem x6d (s:Bs) (h:s.length≤1000000000):z38 s=some (secF s):=by
 unfold z38
 rw [if_pos h,Zb (p:=fun _ c => !badB c) (r0:=3) (e:=if s=[] then 3 else if 100 < s.length then 2 else 0) ?_ s 0 fun j x _ _ => ?_]
 ·rw [z2q (fun c => !badB c),v5v]
  unfold secF
  cases s.any badB
  ·by_cases h1:s=[] <;> simp [h1]
  ·simp
 ·unfold y14
  by_cases h1:s=[]
  ·simp [h1]
  ·by_cases h2:100 < s.length
   ·have:(100:Int) < s.length:=by omega
    simp [h1,h2,this]
   ·have:¬ (100:Int) < s.length:=by omega
    simp [h1,h2,this]
 ·unfold y13 z23 badB
  by_cases h1:(x.toNat:Int) < 33
  ·simp [h1]
  ·by_cases h2:126 < (x.toNat:Int) <;> simp [h1,h2]
structure SgB (l:List wh):Prop where
 len:l.length≤1000
 key:∀ x,x∈l→x.Id.length≤1000∧x.Secret.length≤1000
def x0n (l:List wh) (k:Nat) (x:wh):Bool:=decide (0 < k) && match l[k - 1]? with | some y=>decide (x.From < y.From) | none=>false
def sg1 (l:List wh) (k:Nat) (x:wh):Int:=
 if (!keyP x.Id)=true then 5 else if ((l.take k).any fun o=>decide (o.Id=x.Id))=true then 6 else if secF x.Secret≠0 then secF x.Secret
 else if (outP x.From 0 x.To || decide (x.Until < x.To) || decide (345686400000 < x.Until))=true then 1 else if x0n l k x=true then 7 else 0
def sgF (l:List wh):Int:=if 50 < l.length then 2 else feI (sg1 l) 0 l
theorem v4k (l:List wh) (h:l.length≤1000000000) (p:wh→Option Bool) (q:wh→Bool) (hp:∀ x,p x=some (q x)):y36 l p=some (l.any q):=
 x9j l q h fun x _=>hp x
theorem w43 (l:List wh) (hl:SgB l) (k:Nat) (x:wh) (hx:l[k]?=some x):z74 l (k:Int)=some (sg1 l k x):=by
 have hk:=jj hx
 have hb:=hl.key x (List.mem_of_getElem? hx)
 have hn:=hl.len
 unfold z74 sg1
 rw [Zu,hx]
 simp only [Option.bind_some]
 rw [Yj x.Id (by omega),x5k l k (by omega)]
 simp only [Option.bind_some]
 rw [v4k (l.take k) (by rw [List.length_take]; omega) (fun a0=>z73 a0 x) (fun o=>decide (o.Id=x.Id)) (fun _=>rfl),x6d x.Secret (by omega),Wj]
 simp only [Option.bind_some]
 have hlate:(if decide (0 < (k:Int))=true then (at? l (wr ((k:Int) - 1))).bind fun (x21:wh)=>Wb (decide (x.From < x21.From)) else Wb false)=some (if x0n l k x=true then 7 else 0):=by
  unfold x0n Wb
  by_cases h0:0 < k
  ·obtain ⟨y,hy⟩:∃ y,l[k - 1]?=some y:=⟨_,List.getElem?_eq_getElem (by omega)⟩
   have e1:at? l (wr ((k:Int) - 1))=some y:=by
    rw [ww (by omega),show (k:Int) - 1=((k - 1:Nat):Int) by omega,Zu]; exact hy
   rw [if_pos (by simpa using h0),e1,hy]
   by_cases h1:x.From < y.From <;> simp [h0,h1]
  ·rw [if_neg (by simpa using h0)]
   simp [h0]
 rw [hlate]
 cases keyP x.Id
 ·rfl
 ·cases ((l.take k).any fun o=>decide (o.Id=x.Id))
  ·by_cases h2:secF x.Secret=0
   ·simp only [h2,Bool.not_true,Bool.false_eq_true,if_false,ne_eq,not_true_eq_false,decide_false]
    cases (outP x.From 0 x.To || decide (x.Until < x.To) || decide (345686400000 < x.Until)) <;> rfl
   ·simp [h2]
  ·rfl
theorem v4w (l:List wh) (hl:SgB l):z4e l=some (sgF l):=by
 have hn:=hl.len
 unfold z4e sgF
 by_cases h1:50 < l.length
 ·rw [if_pos (by simp; omega),if_pos h1]
 ·rw [if_neg (by simp; omega),if_neg h1,if_pos (by omega)]
  refine z2k rfl l 0 fun j x _ hx => ?_
  have hx:l[j]?=some x:=by simpa using hx
  unfold y2a
  rw [w43 l hl j x hx]
  simp only [Option.bind_some]
  by_cases h2:sg1 l j x=0 <;> simp [h2]
section
variable (l:List wh) (hl:SgB l) (id secret:Bs) (a long life:Int) (hid:id.length≤1000) (hse:secret.length≤1000)
include hl hid hse
end
section
variable {σ ρ:Type}
theorem rng3 {body:Nat→σ→Option (σ ⊕ ρ)} {fin:σ→Option ρ} {a b c d:σ} (h0:body 0 a=some (.inl b)) (h1:body 1 b=some (.inl c)) (h2:body 2 c=some (.inl d)):rng body fin 3 0 a=fin d:=by
 show (body 0 a).bind _=_
 rw [h0]
 show (body 1 b).bind _=_
 rw [h1]
 show (body 2 c).bind _=_
 rw [h2]; rfl
end
def z2o:Nat→Nat→Bs
 | 0,_=>[]
 | n+1,m=>z2o n (m / 2)++[if m % 2=1 then 49 else 48]
theorem t24:∀ a,a < 64→z2o 6 a=z2o 2 (a / 16)++z2o 4 (a % 16):=by decide +kernel
theorem i26:∀ a,a < 4→∀ b,b < 64→z2o 2 a++z2o 6 b=z2o 8 (a * 64+b):=by decide +kernel
abbrev abc:Bs:=[65,66,67,68,69,70,71,72,73,74,75,76,77,78,79,80,81,82,83,84,85,86,87,88,89,90,97,98,99,100,101,102,103,104,105,106,107,108,109,110,111,112,113,114,115,116,117,118,119,120,121,122,48,49,50,51,52,53,54,55,56,57,45,95]
def ix (c:UInt8):Int:=Lib.indexByte abc c
def hst (h:Int) (c:UInt8):Int:=IntKind.wrap .u64 ((xor_ .u64 h (IntKind.wrap .u64 (c.toNat:Int))) * 1099511628211)
theorem y1c (n:Int):0≤IntKind.wrap .u64 n∧IntKind.wrap .u64 n≤18446744073709551615:=by
 unfold IntKind.wrap
 simp [IntKind.bits,IntKind.signed]
 omega
theorem v2d (l:Bs):∀ h:Int,(0≤h∧h≤18446744073709551615)→0≤l.foldl hst h∧l.foldl hst h≤18446744073709551615:=by
 induction l with
 | nil=>intro h hh; exact hh
 | cons c l ih=>intro h _; exact ih _ (y1c _)
theorem x1w {ρ:Type} {body:Nat→UInt8→Int→Option (Int ⊕ ρ)} {fin:Int→Option ρ} (hb:∀ k c h,body k c h=some (.inl (hst h c))):∀ (l:Bs) (k:Nat) (h:Int),forL body fin k l h=fin (l.foldl hst h)
 | [],k,h=>rfl
 | c::l,k,h=>by
  show (body k c h).bind _=_
  rw [hb]
  exact x1w hb l (k+1) _
theorem w28 (k:Nat) (x:Bs) (h:Int) (hx:x.length≤1000000000):z0t k x h=some (.inl (x.foldl hst h)):=by
 unfold z0t
 rw [if_pos hx,x1w (body:=fun (k:Nat) (x:UInt8) (s:Int)=>y10 k x s) (fun _ _ _=>rfl)]
 rfl
theorem x5j:∀ (ls:List Bs) (k:Nat) (h:Int),(∀ x,x∈ls→x.length≤1000000000)→forL (fun (k:Nat) (x:Bs) (s:Int)=>z0t k x s) (fun (s:Int)=>Wa s) k ls h=Wa (ls.foldl (fun h x=>x.foldl hst h) h)
 | [],k,h,_=>rfl
 | x::ls,k,h,hx=>by
  show (z0t k x h).bind _=_
  rw [w28 k x h (hx x (by simp))]
  exact x5j ls (k+1) _ fun y hy=>hx y (by simp [hy])
def mixH (h:Int):Int:=IntKind.wrap .u64 ((xor_ .u64 h (shr_ .u64 h 29)) * 13787848793156543929)
theorem v2f (h:Int) (hh:0≤h∧h≤18446744073709551615):Ok (z4x h) fun r=>r.length≤100:=by
 unfold z4x
 have hf:Ok (Wp h 16) fun r=>r.length≤16:=by
  unfold Wp z9a z89 z5k z88
  rw [if_neg (by decide),if_neg (by decide),if_neg (by decide)]
  have hp:decide (and_ .i64 16 (wr (16 - 1))=0)=true:=by decide +kernel
  have htz:z5b (IntKind.wrap .u64 16)=some 4:=by decide +kernel
  simp only [hp,Option.bind_some,if_true,htz]
  refine qf (Q:=fun r=>r.length≤16) (qf (Q:=fun r=>r.2.length≤16) ?_ fun r hr=>qa hr) fun r hr=>qa hr
  have h16p:h.toNat < 16 ^ (16 - 0):=by
   have:(16:Nat) ^ (16 - 0)=18446744073709551616:=by decide
   rw [this]; omega
  refine z3u (fun s:Int×Int×List Int=>∃ v j:Nat,s.1=(v:Int)∧s.2.1=((65 - j:Nat):Int)∧j≤15∧s.2.2.length=65∧v < 16 ^ (16 - j)) (fun s=>s.1.toNat) ?_ _ ⟨h.toNat,0,by simp; omega,rfl,by omega,by simp,h16p⟩
  rintro ⟨v,i,l⟩ ⟨v,j,rfl,rfl,hj,hl,hv⟩
  simp only at hl ⊢
  have e16:IntKind.wrap .u64 16=16:=by decide
  have e15:IntKind.wrap .u64 (16 - 1)=15:=by decide
  have hdig:∀ u:Nat,u < 16→Ok (at? ([48,49,50,51,52,53,54,55,56,57,97,98,99,100,101,102,103,104,105,106,107,108,109,110,111,112,113,114,115,116,117,118,119,120,121,122]:Bs) (u:Int)) fun _=>True:=by
   intro u hu
   rw [Zu,List.getElem?_eq_getElem (by simp; omega)]
   exact ⟨_,rfl,trivial⟩
  have ew:wr (((65 - j:Nat):Int) - 1)=((64 - j:Nat):Int):=by rw [ww (by omega)]; omega
  unfold y0a
  rw [e16,e15,ew]
  by_cases h16:16≤v
  ·rw [if_pos (by simp; omega)]
   have hj2:j≤14:=by
    rcases Nat.lt_or_ge 14 j with hq | hq
    ·have:j=15:=by omega
     subst this
     simp at hv; omega
    ·exact hq
   have e1:and_ .u64 (v:Int) 15=((v % 16:Nat):Int):=by
    show IntKind.wrap .u64 (((BitVec.ofInt IntKind.u64.bits (v:Int) &&& BitVec.ofInt IntKind.u64.bits ((15:Nat):Int)).toNat:Nat):Int)=_
    have hbits:IntKind.u64.bits=64:=rfl
    have hv2:v < 2 ^ 64:=Nat.lt_of_lt_of_le hv (Nat.le_trans (Nat.pow_le_pow_right (by decide) (show 16 - j≤16 by omega)) (by decide))
    rw [hbits,BitVec.ofInt_natCast,BitVec.ofInt_natCast,BitVec.toNat_and,BitVec.toNat_ofNat,BitVec.toNat_ofNat,Nat.mod_eq_of_lt hv2,Nat.mod_eq_of_lt (by omega),show 15=2 ^ 4 - 1 from rfl,Nat.and_two_pow_sub_one_eq_mod]
    exact y6l (by omega)
   have e4:IntKind.wrap .u64 4=4:=by decide
   have e2:shr_ .u64 (v:Int) 4=((v / 16:Nat):Int):=by
    show (v:Int).fdiv (2 ^ (min (4:Int).toNat IntKind.u64.bits))=_
    have:min (4:Int).toNat IntKind.u64.bits=4:=by decide
    rw [this,Int.fdiv_eq_ediv_of_nonneg _ (by decide)]
    rfl
   rw [e1]
   refine qf (hdig (v % 16) (Nat.mod_lt _ (by decide))) fun x _=>ok_g (by omega) (ok_g (by omega) ?_)
   rw [e4,e2]
   refine ok_g (by omega) (qa ⟨⟨v / 16,j+1,rfl,?_,by omega,by simp [hl],?_⟩,?_⟩)
   ·have:64 - j=65 - (j+1):=by omega
    rw [this]
   ·obtain ⟨m,hm⟩:∃ m,16 - j=m+1:=⟨15 - j,by omega⟩
    rw [hm,Nat.pow_succ] at hv
    rw [show 16 - (j+1)=m by omega]
    omega
   ·simp only [Int.toNat_natCast]; omega
  ·rw [if_neg (by simp; omega)]
   have hJ:Ok (Wz false false (v:Int) ((65 - j:Nat):Int) l) fun r=>r.2.length≤16:=by
    unfold Wz z18 z17
    rw [ew]
    refine qf (hdig v (by omega)) fun x _=>ok_g (by omega) (ok_g (by omega) ?_)
    rw [if_neg (by decide),if_neg (by decide)]
    refine ok_g (by simp [hl]) (ok_g (by omega) (qa ?_))
    simp only [strN,List.length_map,List.length_drop,List.length_set,hl,Int.toNat_natCast]
    omega
   obtain ⟨r,h1,h2⟩:=hJ
   rw [h1]
   exact ⟨_,rfl,h2⟩
 refine qf hf fun r hr => ?_
 have hw:wr (16 - (r.length:Int))=16 - (r.length:Int):=ww (by omega)
 rw [hw]
 have hr2:Ok (Qj [48] (16 - (r.length:Int))) fun q=>q.length≤16:=by
  unfold Qj
  refine ok_g ⟨by omega,by omega,by simp⟩ (qa ?_)
  rw [Lib.repeatL_length]
  simp only [List.length_cons,List.length_nil]
  omega
 exact qf hr2 fun q hq=>ok_g (by omega) (qa (by simp only [List.length_append]; omega))
theorem w3a (h:Int) (hh:0≤h∧h≤18446744073709551615):Ok (Wa h) fun r=>z2e (mixH (mixH (mixH h)))=some r∧r.length≤100:=by
 unfold Wa
 rw [if_pos (by decide),rng3 (body:=fun (k:Nat) (s:Int)=>y11 k s) (b:=mixH h) (c:=mixH (mixH h)) (d:=mixH (mixH (mixH h))) rfl rfl rfl]
 obtain ⟨r,h1,hlen⟩:=v2f (mixH (mixH (mixH h))) (y1c _)
 have e:y12 (mixH (mixH (mixH h)))=z4x (mixH (mixH (mixH h))):=rfl
 rw [e,h1]
 unfold z2e
 rw [h1]
 exact ⟨r,rfl,rfl,hlen⟩
theorem v1s (a b:Bs):Lib.join [a,b,a] [0]=a++([0]++(b++([0]++a))):=by
 simp [Lib.join]
theorem w27 (s t:Bs) (hs:s.length≤1000000) (ht:t.length≤1000000):Ok (xg s t) fun r=>y4i s t=some r∧r.length≤100:=by
 obtain ⟨H,hH⟩:∃ H,(s++([0]++(t++([0]++s)))).foldl hst 14695981039346656037=H:=⟨_,rfl⟩
 have hr:0≤H∧H≤18446744073709551615:=by rw [← hH]; exact v2d _ _ (by decide)
 have e1:xg s t=Wa H:=by
  unfold xg
  rw [if_pos (by simp)]
  rw [x5j _ _ _ (by intro x hx; simp at hx; rcases hx with h1 | h1 | h1 | h1 | h1 <;> rw [h1] <;> first | omega | simp)]
  rw [← hH]
  simp only [List.foldl_append,List.foldl_cons,List.foldl_nil]
 have e2:y4i s t=z2e (mixH (mixH (mixH H))):=by
  unfold y4i x7f z4h
  rw [v1s]
  have hlen:(s++([0]++(t++([0]++s)))).length≤1000000000:=by simp; omega
  rw [if_pos ⟨by simp,hlen⟩]
  simp only [Option.bind_some]
  rw [if_pos hlen,x1w (body:=fun (k:Nat) (x:UInt8) (s:Int)=>x86 k x s) (fun _ _ _=>rfl),hH]
  unfold x87
  simp only [Option.bind_some]
  rw [if_pos (by decide),rng3 (body:=fun (k:Nat) (s:Int)=>y49 k s) (b:=mixH H) (c:=mixH (mixH H)) (d:=mixH (mixH (mixH H))) rfl rfl rfl]
 rw [e1,e2]
 exact w3a H hr
abbrev xdL:Bs:=[48,49,50,51,52,53,54,55,56,57,97,98,99,100,101,102]
def isX (c:UInt8):Bool:=xdL.contains c
structure RvB (l:List va):Prop where
 len:l.length≤1000
 id:∀ x,x∈l→x.Id.length≤1000
def gRv (x:va) (late:Bool):Int:=if (!keyP x.Id)=true then 5 else if late=true then 7 else if (outP x.At 0 x.Until || decide (345686400000 < x.Until))=true then 1 else 0
def rvF (l:List va):Int:=if 1000 < l.length then 2 else chR (fun x:va=>x.Id) gRv l []
theorem v2o (x:va):leB x.Id []=false∨∀ a b,gRv x a=gRv x b:=by
 cases h:keyP x.Id
 ·right; intro a b; simp [gRv,h]
 ·left; exact z9y h
theorem v6f (l:List va) (hl:RvB l):x7h l=some (rvF l):=by
 have hn:=hl.len
 unfold x7h rvF
 by_cases h1:1000 < l.length
 ·omega
 ·rw [if_neg (by simp; omega),if_neg h1,if_pos (by omega)]
  have h:=y0x (key:=fun x:va=>x.Id) (g:=gRv) (body:=fun k x s=>x1m k x s) (fin:=fun s=>x89 s) (r:=some 0) (fun _=>rfl) l 0 [] fun j x s hx=>by
   unfold x1m gRv
   rw [z5h x.Id (by have:=hl.id x hx; omega),z0a]
   simp only [Option.bind_some,Bool.not_not]
   show (if (!keyP x.Id)=true then _ else if leB x.Id s=true then _ else _)=_
   cases keyP x.Id
   ·rfl
   ·cases leB x.Id s
    ·cases (outP x.At 0 x.Until || decide (345686400000 < x.Until)) <;> rfl
    ·rfl
  rw [h]
  by_cases h2:chR (fun x:va=>x.Id) gRv l []=0
  ·rw [if_neg (not_not_intro h2),h2]
  ·rw [if_pos h2]
theorem v4x (l:List va) (hl:RvB l):z8k l=some (rvF l):=by
 have hn:=hl.len
 unfold z8k rvF
 by_cases h1:1000 < l.length
 ·omega
 ·rw [if_neg (by simp; omega),if_neg h1,if_pos (by omega)]
  have h:=y0y (key:=fun x:va=>x.Id) (g:=gRv) v2o l (body:=fun k x (s:Unit)=>z64 l k x) (fin:=fun (s:Unit)=>y2c) (r:=some 0) rfl l 0 [] (.inl ⟨rfl,rfl⟩) (fun j=>by rw [Nat.zero_add]) fun j x hx=>by
   have hk:=jj hx
   have hJ:∀ b,z3c x b=if b=true then some (.inr 7) else if (outP x.At 0 x.Until || decide (345686400000 < x.Until))=true then some (.inr 1) else some (.inl ()):=fun b=>rfl
   unfold z64 gRv
   rw [Yj x.Id (by have:=hl.id x (List.mem_of_getElem? hx); omega)]
   simp only [Option.bind_some,hJ]
   have hlate:je (fun x:va=>x.Id) l j x=je (fun x:va=>x.Id) l j x:=rfl
   cases keyP x.Id
   ·rfl
   ·simp only [Bool.not_true,Bool.false_eq_true,if_false]
    by_cases h0:0 < j
    ·obtain ⟨y,hy⟩:∃ y,l[j - 1]?=some y:=⟨_,List.getElem?_eq_getElem (by omega)⟩
     have e3:je (fun x:va=>x.Id) l j x=leB x.Id y.Id:=by simp [je,h0,hy]
     have e2:decide (0 < (j:Int))=true:=by simpa using h0
     rw [e3,e2,z2p h0,hy]
     simp only [if_true,Option.bind_some]
     show (if leB x.Id y.Id=true then _ else _)=_
     cases leB x.Id y.Id
     ·cases (outP x.At 0 x.Until || decide (345686400000 < x.Until)) <;> rfl
     ·rfl
    ·have e3:je (fun x:va=>x.Id) l j x=false:=by simp [je,h0]
     have e2:decide (0 < (j:Int))=false:=by simpa using h0
     rw [e3,e2]
     simp only [Bool.false_eq_true,if_false]
     cases (outP x.At 0 x.Until || decide (345686400000 < x.Until)) <;> rfl
  rw [h]
  by_cases h2:chR (fun x:va=>x.Id) gRv l []=0
  ·rw [if_neg (not_not_intro h2),h2]
  ·rw [if_pos h2]
theorem y43 (p:UInt8→Bool):∀ l:Bs,l.dropWhile p=[]↔l.all p=true
 | []=>by simp
 | c::l=>by
  rw [List.dropWhile_cons,List.all_cons]
  cases h:p c
  ·simp
  ·simpa using y43 p l
theorem x82 (p:UInt8→Bool):∀ (l t:Bs) (c:UInt8),l.dropWhile p=c::t→p c=false
 | [],_,_,h=>by cases h
 | d::l,t,c,h=>by
  rw [List.dropWhile_cons] at h
  cases hd:p d
  ·rw [hd] at h
   have:d=c:=by simpa using (List.cons.inj h).1
   rw [← this]; exact hd
  ·rw [hd] at h
   exact x82 p l t c (by simpa using h)
theorem v2c (s:Bs):(Lib.trimS s xdL=[])↔s.all isX=true:=by
 unfold Lib.trimS Lib.trimLeftS Lib.trimRightS
 show (List.dropWhile isX (List.dropWhile isX s.reverse).reverse=[])↔_
 rw [y43,List.all_reverse]
 constructor
 ·intro h
  cases hd:List.dropWhile isX s.reverse with
  | nil =>
   have:=(y43 isX s.reverse).1 hd
   rwa [List.all_reverse] at this
  | cons c t =>
   have h1:=x82 isX _ _ _ hd
   rw [hd] at h
   simp [h1] at h
 ·intro h
  rw [(y43 isX s.reverse).2 (by rw [List.all_reverse]; exact h)]; rfl
def smB (s:Bs):Bool:=decide (s.length=16) && s.all isX
theorem v1u (s:Bs):z79 s=some (smB s):=by
 unfold z79 z28 smB
 by_cases h:s.length=16
 ·rw [if_pos (by simp; omega)]
  unfold y3t
  rw [if_pos ⟨⟨by omega,by decide⟩,by decide⟩]
  simp only [Option.bind_some]
  have ht:=v2c s
  cases hx:s.all isX
  ·have:¬ Lib.trimS s xdL=[]:=fun h=>by rw [ht.1 h] at hx; cases hx
   simp [h,this]
  ·simp [h,ht.2 hx]
 ·rw [if_neg (by simp; omega)]
  simp [h]
def x2p (y x:vi):Bool:=Op.bytesLess x.App y.App || (decide (x.App=y.App) && leB x.Sum y.Sum)
structure HoB (l:List vi):Prop where
 len:l.length≤20
 key:∀ x,x∈l→x.App.length≤1000∧x.Sum.length≤1000∧Sh x.Scopes
 few:∀ x,x∈l→x.Scopes.length≤60
def z5f (l:List vi) (k:Nat) (x:vi):Bool:=decide (0 < k) && match l[k - 1]? with | some y=>x2p y x | none=>false
def ho1 (l:List vi) (k:Nat) (x:vi):Int:=
 if (!keyP x.App)=true then 5 else if (!smB x.Sum)=true then 3 else if z5f l k x=true then 7 else if scF x.Scopes≠0 then scF x.Scopes
 else if (outP x.From 0 x.To || decide (345686400000 < x.To))=true then 1 else 0
def hoF (l:List vi):Int:=if 500 < l.length then 2 else feI (ho1 l) 0 l
theorem v2e (l:List vi) (hl:HoB l) (k:Nat) (x:vi) (hx:l[k]?=some x):z8b l (k:Int)=some (ho1 l k x):=by
 have hk:=jj hx
 have hb:=hl.key x (List.mem_of_getElem? hx)
 have hn:=hl.len
 have hJ:∀ b,Yw x b=some (if b=true then 7 else if scF x.Scopes≠0 then scF x.Scopes else if (outP x.From 0 x.To || decide (345686400000 < x.To))=true then 1 else 0):=by
  intro b
  unfold Yw
  rw [y0v x.Scopes hb.2.2,Wj]
  simp only [Option.bind_some]
  cases b
  ·by_cases h2:scF x.Scopes=0
   ·simp only [h2,Bool.false_eq_true,if_false,ne_eq,not_true_eq_false,decide_false]
    cases (outP x.From 0 x.To || decide (345686400000 < x.To)) <;> rfl
   ·simp [h2]
  ·rfl
 unfold z8b ho1
 rw [Zu,hx]
 simp only [Option.bind_some]
 rw [Yj x.App (by omega),v1u]
 simp only [Option.bind_some,hJ]
 cases keyP x.App
 ·rfl
 ·cases smB x.Sum
  ·rfl
  ·simp only [Bool.not_true,Bool.false_eq_true,if_false]
   by_cases h0:0 < k
   ·obtain ⟨y,hy⟩:∃ y,l[k - 1]?=some y:=⟨_,List.getElem?_eq_getElem (by omega)⟩
    have e1:at? l (wr ((k:Int) - 1))=some y:=by
     rw [ww (by omega),show (k:Int) - 1=((k - 1:Nat):Int) by omega,Zu]; exact hy
    have e3:z5f l k x=x2p y x:=by simp [z5f,h0,hy]
    rw [if_pos (by simpa using h0),e1,e3]
    simp only [Option.bind_some]
    unfold x2p
    show (if Op.bytesLess x.App y.App=true then _ else if decide (x.App=y.App)=true then some (if leB x.Sum y.Sum=true then _ else _) else _)=_
    cases Op.bytesLess x.App y.App
    ·cases decide (x.App=y.App)
     ·rfl
     ·rfl
    ·rfl
   ·have e3:z5f l k x=false:=by simp [z5f,h0]
    rw [if_neg (by simpa using h0),e3]
    rfl
theorem v4z (l:List vi) (hl:HoB l):z8l l=some (hoF l):=by
 have hn:=hl.len
 unfold z8l hoF
 by_cases h1:500 < l.length
 ·rw [if_pos (by simp; omega),if_pos h1]
 ·rw [if_neg (by simp; omega),if_neg h1,if_pos (by omega)]
  refine z2k rfl l 0 fun j x _ hx => ?_
  have hx:l[j]?=some x:=by simpa using hx
  unfold y2d
  rw [v2e l hl j x hx]
  simp only [Option.bind_some]
  by_cases h2:ho1 l j x=0 <;> simp [h2]
structure KeB (k:jm):Prop where
 iss:k.Issuer.length≤1000
 aud:k.Audience.length≤1000
 sg:SgB k.Signers
 rv:RvB k.Revoked
 ho:HoB k.Holders
def kpF (k:jm):Int:=if (!keyP k.Issuer || !keyP k.Audience)=true then 5 else if sgF k.Signers≠0 then sgF k.Signers else if rvF k.Revoked≠0 then rvF k.Revoked else if hoF k.Holders≠0 then hoF k.Holders else if outP k.Skew 0 600000=true then 1 else 0
theorem v4y (k:jm) (hk:KeB k):z4f k=some (kpF k):=by
 have hJ:∀ b,z0w k b=some (if b=true then 5 else if sgF k.Signers≠0 then sgF k.Signers else if rvF k.Revoked≠0 then rvF k.Revoked else if hoF k.Holders≠0 then hoF k.Holders else if outP k.Skew 0 600000=true then 1 else 0):=by
  intro b
  unfold z0w
  rw [v4w _ hk.sg,v4x _ hk.rv,v4z _ hk.ho,Wj]
  simp only [Option.bind_some]
  cases b
  ·by_cases h1:sgF k.Signers=0
   ·by_cases h2:rvF k.Revoked=0
    ·by_cases h3:hoF k.Holders=0
     ·cases h4:outP k.Skew 0 600000 <;> simp [h1,h2,h3]
     ·simp [h1,h2,h3]
    ·simp [h1,h2]
   ·simp [h1]
  ·rfl
 unfold z4f kpF
 rw [Yj _ (by have:=hk.iss; omega),Yj _ (by have:=hk.aud; omega)]
 simp only [Option.bind_some,hJ]
 cases keyP k.Issuer
 ·rfl
 ·cases keyP k.Audience <;> rfl
def tokL:Bs:=[97,98,99,100,101,102,103,104,105,106,107,108,109,110,111,112,113,114,115,116,117,118,119,120,121,122,65,66,67,68,69,70,71,72,73,74,75,76,77,78,79,80,81,82,83,84,85,86,87,88,89,90,48,49,50,51,52,53,54,55,56,57,33,35,36,37,38,39,42,43,45,46,94,95,96,124,126]
def tokB (s:Bs):Bool:=s.all (fun c=>tokL.contains c) && (decide (s≠[]) && decide ((s.length:Int)≤100))
theorem w2n (c:UInt8):z82 (c.toNat:Int)=some (tokL.contains c):=by
 have:=Qq (fun c=>decide (z82 (c.toNat:Int)=some (tokL.contains c))) (by decide +kernel) c
 exact of_decide_eq_true this
theorem x06 (s:Bs) (h:s.length≤1000000000):Wt s=some (tokB s):=by
 unfold Wt
 rw [if_pos h,Zb (p:=fun _ c=>tokL.contains c) (e:=(decide (s≠[]) && decide ((s.length:Int)≤100))) (r0:=false) rfl s 0 (fun j x _ _ => ?_),z2q]
 ·unfold tokB
  cases s.all fun c=>tokL.contains c <;> rfl
 ·unfold y3n
  rw [w2n]
  simp only [Option.bind_some]
  cases tokL.contains x <;> rfl
theorem w2m (s:Bs) (h:s.length≤1000000000):x0h s=some (tokB s):=by
 unfold x0h x1j
 rw [z0a]
 simp only [Option.bind_some]
 have ho:=y9e s tokL h
 have hc:(!outP (s.length:Int) 1 100)=(decide (s≠[]) && decide ((s.length:Int)≤100)):=by
  rw [x6z]
  cases s with
  | nil=>rfl
  | cons a l=>simp; omega
 rw [hc]
 unfold tokB
 cases (decide (s≠[]) && decide ((s.length:Int)≤100))
 ·simp
 ·simp only [if_true,Bool.and_true]
  show (Ww s tokL).bind _=_
  rw [ho]; rfl
def rgB (s:Bs) (lo hi:Int):Bool:=s.all fun c => !outP (c.toNat:Int) lo hi
theorem x07 (s:Bs) (lo hi:Int) (h:s.length≤1000000000):z1x s lo hi=some (rgB s lo hi):=by
 unfold z1x y3h
 rw [if_pos h,Zb (p:=fun _ c => !outP (c.toNat:Int) lo hi) (e:=true) (r0:=false) rfl s 0 (fun j x _ _ => ?_),z2q]
 ·unfold rgB
  cases s.all fun c => !outP (c.toNat:Int) lo hi <;> rfl
 ·unfold y3g z3y outP
  by_cases h1:(x.toNat:Int) < lo <;> by_cases h2:hi < (x.toNat:Int) <;> simp [h1,h2]
theorem w5z {s:Bs} {lo:Int} (h:rgB s lo 126=true):ascB s=true:=by
 unfold rgB at h
 unfold ascB
 rw [List.all_eq_true] at h ⊢
 intro c hc
 have:=h c hc
 unfold outP at this
 simp at this ⊢
 omega
def fldB (s:Bs):Bool:=decide ((s.length:Int)≤2000) && (rgB s 32 126 && decide (trL 32 (trR 32 s)=s))
theorem x09 (s:Bs) (h:s.length≤1000000000):z1z s=some (fldB s):=by
 unfold z1z z1i fldB
 rw [x07 s _ _ h]
 by_cases h1:(s.length:Int)≤2000
 ·rw [if_pos (by simpa using h1)]
  simp only [Option.bind_some]
  cases rgB s 32 126
  ·simp
  ·rw [if_pos rfl,x47 32 (by decide) s h]
   simp [h1]
 ·rw [if_neg (by simpa using h1)]
  simp [h1]
theorem v3k (s:Bs):x7k s=z1z s:=rfl
def hdP (h:ql):Prop:=h.Name.length≤100000∧h.Value.length≤100000
def hdsP (l:List ql):Prop:=l.length≤1000∧∀ h,h∈l→hdP h
def hdE (h:ql):Int:=if tokB h.Name then (if fldB h.Value then 0 else 3) else 5
def hdsE (l:List ql):Int:=if 50 < (l.length:Int) then 2 else feI (fun _ h=>hdE h) 0 l
theorem x8z (l:List ql) (h:hdsP l):z4w l=some (hdsE l)∧x7j l=some (hdsE l):=by
 constructor
 ·unfold z4w y3p hdsE
  by_cases h0:50 < (l.length:Int)
  ·rw [if_pos (by simpa using h0),if_pos h0]
  ·rw [if_neg (by simpa using h0),if_neg h0,if_pos (by have:=h.1; omega)]
   refine z2k rfl l 0 fun j x _ hj => ?_
   obtain ⟨h1,h2⟩:=h.2 x (List.mem_of_getElem? hj)
   unfold y3o hdE
   rw [x06 _ (by omega),x09 _ (by omega)]
   simp only [Option.bind_some]
   cases tokB x.Name <;> cases fldB x.Value <;> simp
 ·unfold x7j x9d hdsE
  by_cases h0:50 < (l.length:Int)
  ·rw [if_pos (by simpa using h0),if_pos h0]
  ·rw [if_neg (by simpa using h0),if_neg h0,if_pos (by have:=h.1; omega)]
   refine z2k rfl l 0 fun j x _ hj => ?_
   obtain ⟨h1,h2⟩:=h.2 x (List.mem_of_getElem? hj)
   unfold x9c hdE
   rw [w2m _ (by omega),v3k,x09 _ (by omega)]
   simp only [Option.bind_some]
   cases tokB x.Name <;> cases fldB x.Value <;> simp
def pthB (s:Bs):Bool:=decide ((s.length:Int)≤1000) && (Lib.hasPrefix s [47] && (rgB s 33 126 && !Lib.containsAny s [63,35]))
theorem w6g (s:Bs) (h:s.length≤1000000000) (hr:rgB s 33 126=true):z8m s [63,35]=some (Lib.containsAny s [63,35]):=by
 unfold z8m
 rw [if_pos ⟨⟨h,by simp⟩,w5z hr,rfl⟩]
theorem w6h (s:Bs) (h:s.length≤1000000000):z1y s=some (if pthB s then 0 else 3):=by
 unfold z1y Wl pthB z1m
 rw [x07 s _ _ h]
 by_cases h1:1000 < (s.length:Int)
 ·have h2:¬ (s.length:Int)≤1000:=by omega
  rw [if_pos (by simpa using h1)]
  simp [h2]
 ·have h2:(s.length:Int)≤1000:=by omega
  rw [if_neg (by simpa using h1)]
  simp only [Option.bind_some]
  cases Lib.hasPrefix s [47]
  ·simp
  ·cases hr:rgB s 33 126
   ·simp
   ·rw [w6g s h hr]
    cases hc:Lib.containsAny s [63,35] <;> simp [h2]
def qryB (s:Bs):Bool:=decide ((s.length:Int)≤1000) && (rgB s 33 126 && !Lib.contains s [35])
theorem w56 (s:Bs) (h:s.length≤1000000000):z8z s=some (if qryB s then 0 else 3):=by
 unfold z8z z1e qryB y3w
 rw [x07 s _ _ h,if_pos h]
 by_cases h1:1000 < (s.length:Int)
 ·have h2:¬ (s.length:Int)≤1000:=by omega
  rw [if_pos (by simpa using h1)]
  simp [h2]
 ·have h2:(s.length:Int)≤1000:=by omega
  rw [if_neg (by simpa using h1)]
  simp only [Option.bind_some]
  cases hr:rgB s 33 126
  ·simp
  ·cases hc:Lib.contains s [35] <;> simp [h2]
noncomputable def x8u (s:Bs):Option Bool:=
 forL (fun (k:Nat) (x:Bs) (_:Unit)=>y3i k x) (fun (_:Unit)=>y3j s (Lib.cut s [58])) 0 (spl 46 (Lib.cut s [58]).1) ()
theorem v4d (s:Bs) (c:UInt8):(Lib.cut s [c]).1.length≤s.length:=by
 unfold Lib.cut
 split
 ·simp; omega
 ·exact Nat.le_refl _
theorem v1w (s:Bs) (h:s.length≤100000):z4t s=x8u s:=by
 have h1:=v4d s 58
 have h2:=z7h 46 (Lib.cut s [58]).1
 unfold z4t x8u z1o kk
 rw [if_pos (by omega)]
 simp only [Option.bind_some]
 rw [if_pos ⟨by omega,by simp⟩,z7g]
 simp only [Option.bind_some]
 rw [if_pos (by omega)]
abbrev lo (s:Bs):Bs:=Lib.toLowerA s
theorem x7m (x:UInt8):(Lib.lowerB x).toNat=if 65≤x.toNat∧x.toNat≤90 then x.toNat+32 else x.toNat:=by
 have:=Qq (fun x=>decide ((Lib.lowerB x).toNat=if 65≤x.toNat∧x.toNat≤90 then x.toNat+32 else x.toNat)) (by decide +kernel) x
 exact of_decide_eq_true this
theorem v2y (x y:UInt8):Lib.foldEq x y=decide (Lib.lowerB x=Lib.lowerB y):=by
 unfold Lib.foldEq
 refine decide_eq_decide.2 ?_
 rw [← UInt8.toNat_inj,x7m,x7m]
 split <;> split <;> omega
theorem x9t:∀ a b:Bs,Lib.equalFold a b=decide (lo a=lo b)
 | [],[]=>rfl
 | [],y::t=>by simp [Lib.equalFold,lo,Lib.toLowerA]
 | x::s,[]=>by simp [Lib.equalFold,lo,Lib.toLowerA]
 | x::s,y::t=>by
  have ih:=x9t s t
  show (Lib.foldEq x y && Lib.equalFold s t)=_
  rw [v2y,ih]
  unfold lo Lib.toLowerA
  simp only [List.map_cons,List.cons.injEq]
  by_cases h1:Lib.lowerB x=Lib.lowerB y <;> simp [h1]
theorem w2o {s:Bs} (h:tokB s=true):ascB s=true:=by
 unfold tokB at h
 simp only [Bool.and_eq_true] at h
 unfold ascB
 refine List.all_eq_true.2 fun c hc => ?_
 have h1:=List.all_eq_true.1 h.1 c hc
 have h2:=Qq (fun c => !tokL.contains c || decide (c.toNat < 128)) (by decide +kernel) c
 rw [h1] at h2
 simpa using h2
def nmB (n:Bs) (h:ql):Bool:=decide (lo h.Name=lo n)
def nmOK (h:ql):Prop:=ascB h.Name=true∧h.Name.length≤100000
theorem w6v (h:ql) (n:Bs) (h1:nmOK h) (h2:ascB n=true):z83 h n=some (nmB n h):=by
 unfold z83 y3v
 rw [if_pos ⟨by have:=h1.2; omega,h1.1,h2⟩]
 simp only [Option.bind_some,x9t]
 rfl
theorem v5y (a b:Bs) (ha:ascB a=true∧a.length≤100000) (hb:ascB b=true∧b.length≤100000):x0g a b=some (decide (lo a=lo b)):=by
 unfold x0g Qi
 rw [if_pos ⟨by omega,ha.1⟩]
 simp only [Option.bind_some]
 rw [if_pos ⟨by omega,hb.1⟩]
 rfl
theorem v4f (s:Bs) (c:UInt8):(Lib.cut s [c]).1.length≤s.length∧(Lib.cut s [c]).2.1.length≤s.length∧(∀ x,x∈(Lib.cut s [c]).1→x∈s)∧∀ x,x∈(Lib.cut s [c]).2.1→x∈s:=by
 unfold Lib.cut
 split
 ·exact ⟨by simp; omega,by simp,fun x hx=>List.mem_of_mem_take hx,fun x hx=>List.mem_of_mem_drop hx⟩
 ·exact ⟨Nat.le_refl _,by simp,fun x hx=>hx,fun x hx=>by cases hx⟩
def Zw (n:Bs) (l:List ql):List Bs:=(l.filter (nmB n)).map fun x=>x.Value
theorem x3q (n:Bs) (hn:ascB n=true):∀ (l:List ql) (k:Nat) (q:List Bs),(∀ x,x∈l→nmOK x)→q.length+l.length≤1000 →
  forL (fun (k:Nat) (x:ql) (s:(List Bs))=>z1h n k x s) (fun (s:(List Bs))=>y3k s) k l q=some (q++Zw n l)
 | [],k,q,_,_=>by show some q=_; simp [Zw]
 | x::l,k,q,h,hl=>by
  simp only [List.length_cons] at hl
  have hst:z1h n k x q=some (.inl (if nmB n x then q++[x.Value] else q)):=by
   unfold z1h z32
   rw [w6v x n (h x (by simp)) hn]
   simp only [Option.bind_some]
   cases nmB n x
   ·rfl
   ·simp only [if_true]; rw [if_pos (by omega)]
  show (z1h n k x q).bind _=_
  rw [hst]
  have ih:=x3q n hn l (k+1) (if nmB n x then q++[x.Value] else q) (fun y hy=>h y (List.mem_cons_of_mem _ hy)) (by split <;> first | omega | (simp only [List.length_append,List.length_cons,List.length_nil]; omega))
  refine Eq.trans ih ?_
  unfold Zw
  rw [List.filter_cons]
  cases nmB n x <;> simp
theorem x3p (n:Bs) (hn:ascB n=true∧n.length≤100000):∀ (l:List ql) (k:Nat) (q:List Bs),(∀ x,x∈l→nmOK x)→q.length+l.length≤1000 →
  forL (fun (k:Nat) (x:ql) (s:(List Bs))=>y0p n k x s) (fun (s:(List Bs))=>x88 s) k l q=some (q++Zw n l)
 | [],k,q,_,_=>by show some q=_; simp [Zw]
 | x::l,k,q,h,hl=>by
  simp only [List.length_cons] at hl
  have hst:y0p n k x q=some (.inl (if nmB n x then q++[x.Value] else q)):=by
   unfold y0p x1i
   rw [v5y x.Name n (h x (by simp)) hn]
   simp only [Option.bind_some]
   show (if nmB n x=true then _ else _)=_
   cases nmB n x
   ·rfl
   ·simp only [if_true]; rw [if_pos (by omega)]
  show (y0p n k x q).bind _=_
  rw [hst]
  have ih:=x3p n hn l (k+1) (if nmB n x then q++[x.Value] else q) (fun y hy=>h y (List.mem_cons_of_mem _ hy)) (by split <;> first | omega | (simp only [List.length_append,List.length_cons,List.length_nil]; omega))
  refine Eq.trans ih ?_
  unfold Zw
  rw [List.filter_cons]
  cases nmB n x <;> simp
theorem y07 (l:List ql) (n:Bs) (hl:l.length≤1000) (h:∀ x,x∈l→nmOK x) (hn:ascB n=true∧n.length≤100000):uu l n=some (Zw n l)∧x7g l n=some (Zw n l):=by
 constructor
 ·unfold uu
  rw [if_pos (by omega),x3q n hn.1 l 0 [] h (by simpa using hl)]; rfl
 ·unfold x7g
  rw [if_pos (by omega),x3p n hn l 0 [] h (by simpa using hl)]; rfl
section
end
def hdA (h:ql):Prop:=hdP h∧nmOK h
section
variable {r3:Int×zy} {r5:(List ql)×zy} (h5:r5.1.length≤10∧∀ y,y∈r5.1→hdA y)
include h5
end
abbrev StK:=Bool×(List Bs)×Int×Bs
def stK (own:Bs) (v:Int) (q:StK) (x:vi):StK:=
 if x.Sum≠own then q else if (x.From≤v∧v < x.To)∧(q.2.2.1=0∨q.2.2.2=x.App) then (true,q.2.1++x.Scopes,2,x.App) else (true,q.2.1,q.2.2.1,q.2.2.2)
theorem w4u (own:Bs) (v:Int) (q:StK) (x:vi) (hx:x.Scopes.length≤60) (hs:Sh x.Scopes) (hq:∀ s,s∈q.2.1→s.length≤1000000):(stK own v q x).2.1.length≤q.2.1.length+60∧∀ s,s∈(stK own v q x).2.1→s.length≤1000000:=by
 unfold stK
 split
 ·exact ⟨by omega,hq⟩
 ·split
  ·refine ⟨by simp; omega,fun s hs' => ?_⟩
   rcases List.mem_append.1 hs' with h | h
   ·exact hq s h
   ·exact hs.2 s h
  ·exact ⟨by simp only; omega,hq⟩
theorem x7u (own:Bs) (v:Int):∀ (l:List vi) (k:Nat) (q:StK),(∀ x,x∈l→x.Scopes.length≤60∧Sh x.Scopes)→(∀ s,s∈q.2.1→s.length≤1000000)→q.2.1.length+60 * l.length≤1000000 →
  forL (fun (k:Nat) (x:vi) (s:StK)=>z0u v own k x s.1 s.2.1 s.2.2.1 s.2.2.2) (fun (s:StK)=>z3a s.1 s.2.1 s.2.2.1 s.2.2.2) k l q=z3a (l.foldl (stK own v) q).1 (l.foldl (stK own v) q).2.1 (l.foldl (stK own v) q).2.2.1 (l.foldl (stK own v) q).2.2.2
 | [],k,q,_,_,_=>rfl
 | x::l,k,q,h,hq,hb=>by
  have h1:=h x (by simp)
  have h2:=w4u own v q x h1.1 h1.2 hq
  simp only [List.length_cons] at hb
  have hst:z0u v own k x q.1 q.2.1 q.2.2.1 q.2.2.2=some (.inl (stK own v q x)):=by
   unfold z0u z0v stK
   by_cases e1:x.Sum=own
   ·rw [if_neg (by simpa using e1),if_neg (not_not_intro e1)]
    by_cases e2:(x.From≤v∧v < x.To)∧(q.2.2.1=0∨q.2.2.2=x.App)
    ·rw [if_pos (by simpa using e2),if_pos e2,if_pos (by omega)]
    ·rw [if_neg (by simpa using e2),if_neg e2]
   ·rw [if_pos (by simpa using e1),if_pos e1]
  show (z0u v own k x q.1 q.2.1 q.2.2.1 q.2.2.2).bind _=_
  rw [hst]
  exact x7u own v l (k+1) (stK own v q x) (fun y hy=>h y (List.mem_cons_of_mem _ hy)) h2.2 (by have:=h2.1; omega)
theorem v33:(List.range 16).all (fun u=>match at? ([48,49,50,51,52,53,54,55,56,57,97,98,99,100,101,102,103,104,105,106,107,108,109,110,111,112,113,114,115,116,117,118,119,120,121,122]:Bs) (u:Int) with | some c=>isX c | none=>false)=true:=by decide
theorem x9y (u:Nat) (h:u < 16):Ok (at? ([48,49,50,51,52,53,54,55,56,57,97,98,99,100,101,102,103,104,105,106,107,108,109,110,111,112,113,114,115,116,117,118,119,120,121,122]:Bs) (u:Int)) fun c=>isX c=true:=by
 have:=List.all_eq_true.1 v33 u (by simp; exact h)
 cases hc:at? ([48,49,50,51,52,53,54,55,56,57,97,98,99,100,101,102,103,104,105,106,107,108,109,110,111,112,113,114,115,116,117,118,119,120,121,122]:Bs) (u:Int) with
 | none=>rw [hc] at this; cases this
 | some c=>rw [hc] at this; exact ⟨c,rfl,this⟩
def xN (n:Int):Prop:=∃ c:UInt8,n=(c.toNat:Int)∧isX c=true
theorem v3y (l:List Int) (i:Nat) (d:Int) (h:i < l.length):(l.set i d).drop i=d::l.drop (i+1):=by
 rw [List.drop_eq_getElem_cons (by simpa using h)]
 simp [List.drop_set]
theorem x3i {l:List Int} {i:Nat} {c:UInt8} (hi:i < l.length) (hc:isX c=true) (h:∀ n,n∈l.drop (i+1)→xN n):∀ n,n∈(l.set i (c.toNat:Int)).drop i→xN n:=fun n hn=>by
 rw [v3y l i _ hi] at hn
 rcases List.mem_cons.1 hn with rfl | hn
 ·exact ⟨c,rfl,hc⟩
 ·exact h n hn
theorem w3f {l:List Int} (h:∀ n,n∈l→xN n):(strN l).all isX=true:=by
 unfold strN
 rw [List.all_map]
 refine List.all_eq_true.2 fun n hn => ?_
 obtain ⟨c,rfl,hc⟩:=h n hn
 simpa using hc
theorem v2g (h:Int) (hh:0≤h∧h≤18446744073709551615):Ok (z4x h) fun r=>smB r=true:=by
 unfold z4x
 have hf:Ok (Wp h 16) fun r=>r.length≤16∧r.all isX=true:=by
  unfold Wp z9a z89 z5k z88
  rw [if_neg (by decide),if_neg (by decide),if_neg (by decide)]
  have hp:decide (and_ .i64 16 (wr (16 - 1))=0)=true:=by decide +kernel
  have htz:z5b (IntKind.wrap .u64 16)=some 4:=by decide +kernel
  simp only [hp,Option.bind_some,if_true,htz]
  refine qf (Q:=fun r=>r.length≤16∧r.all isX=true) (qf (Q:=fun r=>r.2.length≤16∧r.2.all isX=true) ?_ fun r hr=>qa hr) fun r hr=>qa hr
  have h16p:h.toNat < 16 ^ (16 - 0):=by
   have:(16:Nat) ^ (16 - 0)=18446744073709551616:=by decide
   rw [this]; omega
  refine z3u (fun s:Int×Int×List Int=>∃ v j:Nat,s.1=(v:Int)∧s.2.1=((65 - j:Nat):Int)∧j≤15∧s.2.2.length=65∧v < 16 ^ (16 - j)∧∀ n,n∈s.2.2.drop (65 - j)→xN n) (fun s=>s.1.toNat) ?_ _ ⟨h.toNat,0,by simp; omega,rfl,by omega,by simp,h16p,by simp⟩
  rintro ⟨v,i,l⟩ ⟨v,j,rfl,rfl,hj,hl,hv,hx⟩
  simp only at hl hx ⊢
  have e16:IntKind.wrap .u64 16=16:=by decide
  have e15:IntKind.wrap .u64 (16 - 1)=15:=by decide
  have ew:wr (((65 - j:Nat):Int) - 1)=((64 - j:Nat):Int):=by rw [ww (by omega)]; omega
  have hx2:∀ n,n∈l.drop (64 - j+1)→xN n:=by rw [show 64 - j+1=65 - j by omega]; exact hx
  unfold y0a
  rw [e16,e15,ew]
  by_cases h16:16≤v
  ·rw [if_pos (by simp; omega)]
   have hj2:j≤14:=by
    rcases Nat.lt_or_ge 14 j with hq | hq
    ·have:j=15:=by omega
     subst this
     simp at hv; omega
    ·exact hq
   have e1:and_ .u64 (v:Int) 15=((v % 16:Nat):Int):=by
    show IntKind.wrap .u64 (((BitVec.ofInt IntKind.u64.bits (v:Int) &&& BitVec.ofInt IntKind.u64.bits ((15:Nat):Int)).toNat:Nat):Int)=_
    have hbits:IntKind.u64.bits=64:=rfl
    have hv2:v < 2 ^ 64:=Nat.lt_of_lt_of_le hv (Nat.le_trans (Nat.pow_le_pow_right (by decide) (show 16 - j≤16 by omega)) (by decide))
    rw [hbits,BitVec.ofInt_natCast,BitVec.ofInt_natCast,BitVec.toNat_and,BitVec.toNat_ofNat,BitVec.toNat_ofNat,Nat.mod_eq_of_lt hv2,Nat.mod_eq_of_lt (by omega),show 15=2 ^ 4 - 1 from rfl,Nat.and_two_pow_sub_one_eq_mod]
    exact y6l (by omega)
   have e4:IntKind.wrap .u64 4=4:=by decide
   have e2:shr_ .u64 (v:Int) 4=((v / 16:Nat):Int):=by
    show (v:Int).fdiv (2 ^ (min (4:Int).toNat IntKind.u64.bits))=_
    have:min (4:Int).toNat IntKind.u64.bits=4:=by decide
    rw [this,Int.fdiv_eq_ediv_of_nonneg _ (by decide)]
    rfl
   rw [e1]
   refine qf (x9y (v % 16) (Nat.mod_lt _ (by decide))) fun x hxc=>ok_g (by omega) (ok_g (by omega) ?_)
   rw [e4,e2]
   refine ok_g (by omega) (qa ⟨⟨v / 16,j+1,rfl,?_,by omega,by simp [hl],?_,?_⟩,?_⟩)
   ·have:64 - j=65 - (j+1):=by omega
    rw [this]
   ·obtain ⟨m,hm⟩:∃ m,16 - j=m+1:=⟨15 - j,by omega⟩
    rw [hm,Nat.pow_succ] at hv
    rw [show 16 - (j+1)=m by omega]
    omega
   ·simp only [Int.toNat_natCast]
    rw [show 65 - (j+1)=64 - j by omega]
    exact x3i (by rw [hl]; omega) hxc hx2
   ·simp only [Int.toNat_natCast]; omega
  ·rw [if_neg (by simp; omega)]
   have hJ:Ok (Wz false false (v:Int) ((65 - j:Nat):Int) l) fun r=>r.2.length≤16∧r.2.all isX=true:=by
    unfold Wz z18 z17
    rw [ew]
    refine qf (x9y v (by omega)) fun x hxc=>ok_g (by omega) (ok_g (by omega) ?_)
    rw [if_neg (by decide),if_neg (by decide)]
    refine ok_g (by simp [hl]) (ok_g (by omega) (qa ⟨?_,?_⟩))
    ·simp only [strN,List.length_map,List.length_drop,List.length_set,hl,Int.toNat_natCast]
     omega
    ·simp only [Int.toNat_natCast]
     exact w3f (x3i (by rw [hl]; omega) hxc hx2)
   obtain ⟨r,h1,h2⟩:=hJ
   rw [h1]
   exact ⟨_,rfl,h2⟩
 refine qf hf fun r hr => ?_
 have hw:wr (16 - (r.length:Int))=16 - (r.length:Int):=ww (by omega)
 rw [hw]
 have hr2:Ok (Qj [48] (16 - (r.length:Int))) fun q=>q.length=16 - r.length∧q.all isX=true:=by
  unfold Qj
  refine ok_g ⟨by omega,by omega,by simp⟩ (qa ⟨?_,?_⟩)
  ·rw [Lib.repeatL_length]
   simp only [List.length_cons,List.length_nil]
   omega
  ·have:∀ n:Nat,(Lib.repeatL [48] n).all isX=true:=by
    intro n
    induction n with
    | zero=>rfl
    | succ n ih=>simp [Lib.repeatL] at ih ⊢; exact ⟨by decide,ih⟩
   exact this _
 refine qf hr2 fun q hq=>ok_g (by omega) (qa ?_)
 unfold smB
 rw [List.all_append,hq.2,hr.2]
 simp only [List.length_append,Bool.and_self,Bool.and_true,decide_eq_true_eq]
 omega
theorem w29 (s t:Bs) (hs:s.length≤1000000) (ht:t.length≤1000000):Ok (xg s t) fun r=>smB r=true:=by
 obtain ⟨r,r1,r2,r3⟩:=w27 s t hs ht
 refine ⟨r,r1,?_⟩
 unfold y4i at r2
 obtain ⟨h,h1,h2⟩:=bnd r2
 unfold z2e at h2
 have hgen:∀ (h:Int),Ok (rng (fun (k:Nat) (s:Int)=>y49 k s) (fun (s:Int)=>z2e s) 3 0 h) fun r=>smB r=true:=by
  intro h
  rw [rng3 (body:=fun (k:Nat) (s:Int)=>y49 k s) (b:=mixH h) (c:=mixH (mixH h)) (d:=mixH (mixH (mixH h))) rfl rfl rfl]
  unfold z2e
  obtain ⟨q,q1,q2⟩:=v2g (mixH (mixH (mixH h))) (y1c _)
  rw [q1]
  exact qa q2
 rw [if_pos (by decide)] at h2
 obtain ⟨q,q1,q2⟩:=hgen h
 have:some q=some r:=q1.symm.trans h2
 cases this
 exact q2
end Go.Proofs.YtbndlmnjeofkdacGreatDoor
