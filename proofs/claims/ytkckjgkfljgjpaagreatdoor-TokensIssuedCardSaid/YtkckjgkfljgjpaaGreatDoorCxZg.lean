/- Plain: claims that are read, both sides. -/
import Derived.Test.YtkckjgkfljgjpaaGreatDoorCwZg
namespace Go.Proofs.YtkckjgkfljgjpaaGreatDoor
set_option linter.unusedVariables false
set_option linter.unusedSimpArgs false
set_option linter.unusedSectionVars false
set_option maxRecDepth 20000
def kdL:List Bs:=[[105,100],[115,117,98,106,101,99,116],[105,115,115,117,101,114],[112,97,114,101,110,116],[102,111,114],[109,97,121],[116,105,109,101]]
def kd (x:Bs):Nat:=if x=[105,100] then 0 else if x=[115,117,98,106,101,99,116] then 1 else if x=[105,115,115,117,101,114] then 2 else if x=[112,97,114,101,110,116] then 3 else if x=[102,111,114] then 4 else if x=[109,97,121] then 5 else if x=[116,105,109,101] then 6 else 7
theorem x9j (x:Bs):kd x≤7:=by
 unfold kd
 repeat' split
 all_goals omega
theorem x7p (x:Bs) (k:Nat) (hk:k < 7):kd x=k↔x=kdL.getD k []:=by
 have hc:k=0∨k=1∨k=2∨k=3∨k=4∨k=5∨k=6:=by omega
 constructor
 ·intro h
  unfold kd at h
  repeat' (split at h)
  all_goals (subst h; try omega)
  all_goals (first | assumption | (exfalso; omega))
 ·intro h
  subst h
  rcases hc with rfl | rfl | rfl | rfl | rfl | rfl | rfl <;> decide
theorem x9k (x:Bs):fdx (fun y=>decide (x=y)) 0 kdL=if kd x < 7 then (kd x:Int) else -1:=by
 have h7:=x9j x
 by_cases h:kd x < 7
 ·rw [if_pos h]
  have e:=(x7p x (kd x) h).1 rfl
  have hc:kd x=0∨kd x=1∨kd x=2∨kd x=3∨kd x=4∨kd x=5∨kd x=6:=by omega
  rcases hc with h1 | h1 | h1 | h1 | h1 | h1 | h1 <;> (rw [h1] at e ⊢; rw [e]; decide)
 ·rw [if_neg h]
  have h1:kdL.any (fun y=>decide (x=y))=false:=by
   rw [List.any_eq_false]
   intro y hy hxy
   have hxy:x=y:=by simpa using hxy
   subst hxy
   have:x=kdL.getD 0 []∨x=kdL.getD 1 []∨x=kdL.getD 2 []∨x=kdL.getD 3 []∨x=kdL.getD 4 []∨x=kdL.getD 5 []∨x=kdL.getD 6 []:=by simpa [kdL] using hy
   rcases this with h1 | h1 | h1 | h1 | h1 | h1 | h1 <;> (have:=(x7p x _ (by omega)).2 h1; omega)
  have h2:=x5e (fun y=>decide (x=y)) kdL
  rw [h1] at h2
  have h3:fdx (fun y=>decide (x=y)) 0 kdL < 0:=by simpa using h2
  have h4:=(x06 (fun y=>decide (x=y)) kdL 0).1
  have:∀ (l:List Bs) (k:Nat),l.any (fun y=>decide (x=y))=false→fdx (fun y=>decide (x=y)) k l=-1:=by
   intro l
   induction l with
   | nil=>intro k _; rfl
   | cons y l ih =>
    intro k hk
    simp only [List.any_cons,Bool.or_eq_false_iff] at hk
    rw [fdx,if_neg (by simpa using hk.1)]
    exact ih (k+1) hk.2
  exact this kdL 0 h1
def w3v (s:Bs):Bool:=(decide (s≠[112,97,114,101,110,116]) && decide (s≠[102,111,114])) && decide (s≠[109,97,121])
def optB (m:Nat):Bool:=m == 3 || m == 4 || m == 5
def skB (k j:Nat):Bool:=(List.range 7).all fun m=>decide (m < k) || decide (j≤m) || optB m
def okK (k j:Nat):Bool:=decide (j < 7) && decide (k≤j) && skB k j
theorem w3u:∀ k:Fin 8,∀ j:Fin 7,((kdL.drop k.1).take (max j.1 k.1 - k.1)).any w3v = !skB k.1 j.1:=by decide
theorem w3q:∀ k:Fin 8,∀ j:Fin 8,optB k.1=true→j.1≠k.1→okK k.1 j.1=okK (k.1+1) j.1:=by decide
theorem w3s:∀ k:Fin 8,∀ j:Fin 8,optB k.1=false→j.1≠k.1→okK k.1 j.1=false:=by decide
theorem w3r:∀ k:Fin 7,okK k.1 k.1=true:=by decide
theorem w1y:∀ j:Fin 8,okK 7 j.1=false:=by decide
def z40 (x:Bs):Bs:=(spl 32 x).headD []
def y1v (x:Bs):List Bs:=if 32∈x then (spl 32 x).tail else [[]]
theorem x3s {x:Bs} (h:32∈x):spl 32 x=z40 x::y1v x∧y1v x≠[]:=by
 obtain ⟨p,q,rfl,h2⟩:=y6m h
 unfold z40 y1v
 rw [if_pos h,splA 32 q p h2]
 exact ⟨rfl,x0w 32 q⟩
theorem x5d {x:Bs} (h:32 ∉ x):spl 32 x=[x]∧z40 x=x∧y1v x=[[]]:=by
 unfold z40 y1v
 rw [if_neg h,splN 32 x h]
 exact ⟨rfl,rfl,rfl⟩
def setC (j:Nat) (c:z0e) (w:List Bs):Option z0e:=
 match j with
 | 0=>if w.length=2 then some (z0e.mk (w.getD 1 []) c.Subject c.Issuer c.Parent c.Audience c.Scopes c.From c.To) else none
 | 1=>if w.length=2 then some (z0e.mk c.Id (w.getD 1 []) c.Issuer c.Parent c.Audience c.Scopes c.From c.To) else none
 | 2=>if w.length=2 then some (z0e.mk c.Id c.Subject (w.getD 1 []) c.Parent c.Audience c.Scopes c.From c.To) else none
 | 3=>if w.length=2 then some (z0e.mk c.Id c.Subject c.Issuer (w.getD 1 []) c.Audience c.Scopes c.From c.To) else none
 | 4=>if 1 < w.length then some (z0e.mk c.Id c.Subject c.Issuer c.Parent (w.drop 1) c.Scopes c.From c.To) else none
 | 5=>if 1 < w.length then some (z0e.mk c.Id c.Subject c.Issuer c.Parent c.Audience (w.drop 1) c.From c.To) else none
 | _=>if w.length=3∧okN 15 (w.getD 1 [])=true∧okN 15 (w.getD 2 [])=true then some (z0e.mk c.Id c.Subject c.Issuer c.Parent c.Audience c.Scopes (valB (w.getD 1 [])) (valB (w.getD 2 []))) else none
def y5j:z0e:=z0e.mk [] [] [] [] [] [] 0 0
def finC (c:z0e):z0e×Int×Int:=if clF c≠0 then (y5j,0,clF c) else (c,0,0)
def errC (i:Nat):z0e×Int×Int:=(y5j,(i:Int),9)
def rdC (e:Bool):List Bs→Nat→Nat→z0e→z0e×Int×Int
 | [],k,i,c=>if k=7 then finC c else errC i
 | x::L,k,i,c=>if (L=[]∧e=false)∨okK k (kd (z40 x))=false∨[]∈spl 32 x then errC i else
  match setC (kd (z40 x)) c (spl 32 x) with
  | none=>errC i
  | some c'=>rdC e L (kd (z40 x)+1) (i+1) c'
theorem x53 {e:Bool} {x:Bs} {L:List Bs} {k i:Nat} {c:z0e} (hk:k=3∨k=4∨k=5) (h:kd (z40 x)≠k):rdC e (x::L) k i c=rdC e (x::L) (k+1) i c:=by
 have h7:=x9j (z40 x)
 have:=w3q ⟨k,by omega⟩ ⟨kd (z40 x),by omega⟩ (by rcases hk with rfl | rfl | rfl <;> rfl) h
 simp only at this
 simp only [rdC,this]
theorem x54 {e:Bool} {x:Bs} {L:List Bs} {k i:Nat} {c:z0e} (hk:k=0∨k=1∨k=2∨k=6) (h:kd (z40 x)≠k):rdC e (x::L) k i c=errC i:=by
 have h7:=x9j (z40 x)
 have:=w3s ⟨k,by omega⟩ ⟨kd (z40 x),by omega⟩ (by rcases hk with rfl | rfl | rfl | rfl <;> rfl) h
 simp only at this
 rw [rdC,if_pos (.inr (.inl this))]
theorem x4x {e:Bool} {x:Bs} {L:List Bs} {k i:Nat} {c:z0e} (hk:k < 7) (h:kd (z40 x)=k):rdC e (x::L) k i c=if (L=[]∧e=false)∨[]∈spl 32 x then errC i else match setC k c (spl 32 x) with | none=>errC i | some c'=>rdC e L (k+1) (i+1) c':=by
 have:=w3r ⟨k,hk⟩
 simp only at this
 rw [rdC,h,this]
 simp
theorem x8o {j:Nat} {c c':z0e} {w:List Bs} (hc:ClB c) (hw:Sh w) (h:setC j c w=some c'):ClB c':=by
 have hg:∀ n,(w.getD n []).length≤1000000:=fun n=>by
  rw [List.getD_eq_getElem?_getD]
  cases hn:w[n]? with
  | none=>simp
  | some y=>exact hw.2 y (List.mem_of_getElem? hn)
 have hd:Sh (w.drop 1):=⟨by have:=hw.1; simp; omega,fun x hx=>hw.2 x (List.mem_of_mem_drop hx)⟩
 unfold setC at h
 repeat' (split at h)
 all_goals first
  | (cases h; done)
  | (cases h; first | exact ⟨hg 1,hc.subject,hc.issuer,hc.parent,hc.aud,hc.sc⟩ | exact ⟨hc.id,hg 1,hc.issuer,hc.parent,hc.aud,hc.sc⟩ | exact ⟨hc.id,hc.subject,hg 1,hc.parent,hc.aud,hc.sc⟩ | exact ⟨hc.id,hc.subject,hc.issuer,hg 1,hc.aud,hc.sc⟩ | exact ⟨hc.id,hc.subject,hc.issuer,hc.parent,hd,hc.sc⟩ | exact ⟨hc.id,hc.subject,hc.issuer,hc.parent,hc.aud,hd⟩ | exact ⟨hc.id,hc.subject,hc.issuer,hc.parent,hc.aud,hc.sc⟩)
theorem x5u {x:Bs} (h:x.length≤100000):Sh (spl 32 x):=⟨by have:=y41 32 x; omega,fun y hy=>by have:=y3f 32 x y hy; omega⟩
theorem w60 (c:z0e) (w:List Bs) (hw:Sh w) (j:Nat) (hj:j < 7) (h0:w[0]?=some (kdL.getD j [])):∃ q,z8a c w=some q∧(setC j c w=none→q.1=false)∧∀ c',setC j c w=some c'→q=(true,c'):=by
 obtain ⟨y,t,rfl⟩:∃ y t,w=y::t:=by
  cases w with
  | nil=>simp at h0
  | cons y t=>exact ⟨y,t,rfl⟩
 have hy:y=kdL.getD j []:=by simpa using h0
 have hl:=hw.1
 simp only [List.length_cons] at hl
 have hsub:sub? (y::t) 1 ((y::t).length:Int)=some t:=by
  unfold sub?
  rw [if_pos ⟨by omega,by simp; omega,Int.le_refl _⟩]
  simp
 have hlk:∀ z:Bs,lkG ([([105,100],(0:Int)),([115,117,98,106,101,99,116],(1:Int)),([105,115,115,117,101,114],(2:Int)),([112,97,114,101,110,116],(3:Int))]:List (Bs×Int)) z=if [105,100]=z then some 0 else if [115,117,98,106,101,99,116]=z then some 1 else if [105,115,115,117,101,114]=z then some 2 else if [112,97,114,101,110,116]=z then some 3 else none:=fun z=>by
  simp only [lkG]
  by_cases h1:([105,100]:Bs)=z
  ·rw [if_pos h1,if_pos h1]
  ·rw [if_neg h1,if_neg h1]
   by_cases h2:([115,117,98,106,101,99,116]:Bs)=z
   ·rw [if_pos h2,if_pos h2]
   ·rw [if_neg h2,if_neg h2]
    by_cases h3:([105,115,115,117,101,114]:Bs)=z
    ·rw [if_pos h3,if_pos h3]
    ·rw [if_neg h3,if_neg h3]
     by_cases h4:([112,97,114,101,110,116]:Bs)=z
     ·rw [if_pos h4,if_pos h4]
     ·rw [if_neg h4,if_neg h4]
 have hone:∀ (v:Int) (mk:Bs→z0e),(lkG ([([105,100],(0:Int)),([115,117,98,106,101,99,116],(1:Int)),([105,115,115,117,101,114],(2:Int)),([112,97,114,101,110,116],(3:Int))]:List (Bs×Int)) y).getD (-1)=v→z6d v=true→(∀ z,y07 c v z=mk z)→y≠[102,111,114]→y≠[109,97,121]→y≠[116,105,109,101]→y.length≤1000000000 →
   ∃ q,z8a c (y::t)=some q∧((if (y::t).length=2 then some (mk ((y::t).getD 1 [])) else none)=none→q.1=false)∧∀ c',(if (y::t).length=2 then some (mk ((y::t).getD 1 [])) else none)=some c'→q=(true,c'):=by
  intro v mk h1 h2 h3 n1 n2 n3 hyl
  unfold z8a
  simp only [List.getElem?_cons_zero,Option.bind_some]
  rw [if_neg (by simpa using n1),if_neg (by simpa using n2),if_neg (by simpa using n3)]
  by_cases hlen:t.length=1
  ·obtain ⟨z,rfl⟩:=List.length_eq_one_iff.1 hlen
   rw [if_neg (by simp),if_pos (by simp),if_pos (by simp),if_pos (by simp),if_pos (by simp),if_pos hyl]
   simp only [List.getElem?_cons_succ,List.getElem?_cons_zero,Option.bind_some,h1,h2,h3,if_true]
   exact ⟨_,rfl,by simp,fun c' hc'=>by simpa using hc'⟩
  ·rw [if_pos (by simp; omega)]
   exact ⟨_,rfl,fun _=>rfl,fun c' hc'=>by rw [if_neg (by simp; omega)] at hc'; cases hc'⟩
 have hc:j=0∨j=1∨j=2∨j=3∨j=4∨j=5∨j=6:=by omega
 rcases hc with rfl | rfl | rfl | rfl | rfl | rfl | rfl
 ·have hy:y=[105,100]:=hy
  subst hy
  exact hone 0 (fun z=>z0e.mk z c.Subject c.Issuer c.Parent c.Audience c.Scopes c.From c.To) (by rw [hlk]; rfl) rfl (fun z=>rfl) (by decide) (by decide) (by decide) (by simp)
 ·have hy:y=[115,117,98,106,101,99,116]:=hy
  subst hy
  exact hone 1 (fun z=>z0e.mk c.Id z c.Issuer c.Parent c.Audience c.Scopes c.From c.To) (by rw [hlk]; rfl) rfl (fun z=>rfl) (by decide) (by decide) (by decide) (by simp)
 ·have hy:y=[105,115,115,117,101,114]:=hy
  subst hy
  exact hone 2 (fun z=>z0e.mk c.Id c.Subject z c.Parent c.Audience c.Scopes c.From c.To) (by rw [hlk]; rfl) rfl (fun z=>rfl) (by decide) (by decide) (by decide) (by simp)
 ·have hy:y=[112,97,114,101,110,116]:=hy
  subst hy
  exact hone 3 (fun z=>z0e.mk c.Id c.Subject c.Issuer z c.Audience c.Scopes c.From c.To) (by rw [hlk]; rfl) rfl (fun z=>rfl) (by decide) (by decide) (by decide) (by simp)
 ·have hy:y=[102,111,114]:=hy
  subst hy
  unfold z8a
  simp only [List.getElem?_cons_zero,Option.bind_some]
  rw [if_pos (by simp),hsub]
  simp only [Option.bind_some,setC]
  by_cases h1:1 < ([102,111,114]::t).length
  ·rw [if_pos h1]
   exact ⟨_,rfl,by simp,fun c' hc'=>by cases hc'; simp only [List.drop_succ_cons,List.drop_zero]; rw [decide_eq_true (by omega)]⟩
  ·rw [if_neg h1]
   exact ⟨_,rfl,fun _=>decide_eq_false (by omega),fun c' hc'=>by cases hc'⟩
 ·have hy:y=[109,97,121]:=hy
  subst hy
  unfold z8a
  simp only [List.getElem?_cons_zero,Option.bind_some]
  rw [if_neg (by simp),if_pos (by simp),hsub]
  simp only [Option.bind_some,setC]
  by_cases h1:1 < ([109,97,121]::t).length
  ·rw [if_pos h1]
   exact ⟨_,rfl,by simp,fun c' hc'=>by cases hc'; simp only [List.drop_succ_cons,List.drop_zero]; rw [decide_eq_true (by omega)]⟩
  ·rw [if_neg h1]
   exact ⟨_,rfl,fun _=>decide_eq_false (by omega),fun c' hc'=>by cases hc'⟩
 ·have hy:y=[116,105,109,101]:=hy
  subst hy
  unfold z8a
  simp only [List.getElem?_cons_zero,Option.bind_some]
  rw [if_neg (by simp),if_neg (by simp),if_pos (by simp)]
  by_cases h3:t.length=2
  ·obtain ⟨a,b,rfl⟩:∃ a b,t=[a,b]:=by
    match t,h3 with
    | [a,b],_=>exact ⟨a,b,rfl⟩
   obtain ⟨v1,w1,w2,_⟩:=x00 a 15 (by omega) (hw.2 a (by simp))
   obtain ⟨v2,z1,z2,_⟩:=x00 b 15 (by omega) (hw.2 b (by simp))
   have w1':z6z a 15=some (v1,okN 15 a):=w1
   have z1':z6z b 15=some (v2,okN 15 b):=z1
   rw [if_neg (by simp)]
   simp only [List.getElem?_cons_succ,List.getElem?_cons_zero,Option.bind_some,w1',z1',setC]
   refine ⟨_,rfl,fun hn => ?_,fun c' hc' => ?_⟩
   ·by_cases ha:okN 15 a=true <;> by_cases hb:okN 15 b=true <;> simp_all
   ·split at hc'
    ·rename_i hh
     cases hc'
     have ha:okN 15 a=true:=hh.2.1
     have hb:okN 15 b=true:=hh.2.2
     simp [ha,hb,w2 ha,z2 hb]
    ·cases hc'
  ·rw [if_pos (by simp; omega)]
   exact ⟨_,rfl,fun _=>rfl,fun c' hc'=>by simp only [setC] at hc'; rw [if_neg (fun hh=>h3 (by simpa using hh.1))] at hc'; cases hc'⟩
def stR (t:Bs) (k i:Nat) (c:z0e):Bs×Int×Int×Bs×Bs×Bs×Bs×(List Bs)×(List Bs)×Int×Int:=(t,(k:Int),(i:Int),c.Id,c.Subject,c.Issuer,c.Parent,c.Audience,c.Scopes,c.From,c.To)
theorem refC (e:Bool):∀ (L:List Bs) (k i:Nat) (c:z0e),k≤7→i+L.length≤100000→ClB c→(∀ x,x∈L→10 ∉ x∧x.length≤10000)→(e=false→L.getLast?≠some [])→(txT e L).length≤100000 →
  iter (fun (s:Bs×Int×Int×Bs×Bs×Bs×Bs×(List Bs)×(List Bs)×Int×Int)=>z19 s.1 s.2.1 s.2.2.1 s.2.2.2.1 s.2.2.2.2.1 s.2.2.2.2.2.1 s.2.2.2.2.2.2.1 s.2.2.2.2.2.2.2.1 s.2.2.2.2.2.2.2.2.1 s.2.2.2.2.2.2.2.2.2.1 s.2.2.2.2.2.2.2.2.2.2) (stR (txT e L) k i c)=some (rdC e L k i c)
 | [],k,i,c,hk,hi,hc,hL,he,ht=>by
  refine y35 ?_
  show z19 [] (k:Int) (i:Int) c.Id c.Subject c.Issuer c.Parent c.Audience c.Scopes c.From c.To=_
  unfold z19
  rw [if_pos (by simp),rdC]
  by_cases h7:k=7
  ·subst h7
   rw [if_pos (by simp),if_pos rfl]
   unfold z7w
   have:z5h (z0e.mk c.Id c.Subject c.Issuer c.Parent c.Audience c.Scopes c.From c.To)=some (clF c):=w2y c hc
   rw [this]
   simp only [Option.bind_some]
   unfold finC
   by_cases h0:clF c=0 <;> simp [h0,y5j]
  ·rw [if_neg (by simp; omega),if_neg h7]
   rfl
 | x::L,k,i,c,hk,hi,hc,hL,he,ht=>by
  obtain ⟨hx10,hxl⟩:=hL x (by simp)
  simp only [List.length_cons] at hi
  have hcut:∃ en,Lib.cut (txT e (x::L)) [10]=(x,txT e L,en)∧(en=true↔¬ (L=[]∧e=false))∧txT e (x::L)≠[]:=by
   cases L with
   | nil =>
    cases e with
    | true=>exact ⟨true,x2i 10 x [] hx10,by simp,by simp [txT]⟩
    | false=>exact ⟨false,w2x 10 x hx10,by simp,by have:=he rfl; simpa [txT] using this⟩
   | cons y l=>exact ⟨true,by rw [x1k]; exact x2i 10 x _ hx10,by simp,by simp [x1k]⟩
  obtain ⟨en,hcut,hen,hne⟩:=hcut
  have hcutm:z92 (txT e (x::L)) [10]=some (x,txT e L,en):=by unfold z92; rw [if_pos (by omega),hcut]
  have hw0:(spl 32 x)[0]?=some (z40 x):=by
   unfold z40
   cases hs:spl 32 x with
   | nil=>exact absurd hs (x0w 32 x)
   | cons a b=>rfl
  have hidx:z2q kdL (z40 x)=some (fdx (fun y=>decide (z40 x=y)) 0 kdL):=
   y98 (p:=fun y=>some (decide (z40 x=y))) kdL _ (by decide) fun y _=>rfl
  have h7:=x9j (z40 x)
  have hsub:sub? kdL (k:Int) (max (fdx (fun y=>decide (z40 x=y)) 0 kdL) (k:Int))=some ((kdL.drop k).take (max (if kd (z40 x) < 7 then kd (z40 x) else 0) k - k)):=by
   rw [x9k]
   unfold sub?
   by_cases hj:kd (z40 x) < 7
   ·rw [if_pos hj,if_pos hj,if_pos ⟨by omega,by omega,by simp [kdL]; omega⟩]
    congr 2
    all_goals (try omega)
   ·rw [if_neg hj,if_neg hj,if_pos ⟨by omega,by omega,by simp [kdL]; omega⟩]
    congr 2
    all_goals (try omega)
  have hcon:∀ l:List Bs,l.length≤1000→z1r l (fun a0=>z5z a0)=some (l.any w3v):=fun l hl =>
   x2d l (p:=fun a0=>z5z a0) w3v (by omega) fun y _=>rfl
  have herr:∀ a b c' d f g h q,z2l (i:Int) (x,txT e L,en) (fdx (fun y=>decide (z40 x=y)) 0 kdL) true a b c' d f g h q=some (.inr (errC i)):=fun a b c' d f g h q=>rfl
  have hst:∀ r,(z19 (txT e (x::L)) (k:Int) (i:Int) c.Id c.Subject c.Issuer c.Parent c.Audience c.Scopes c.From c.To=some (.inr r))→iter (fun (s:Bs×Int×Int×Bs×Bs×Bs×Bs×(List Bs)×(List Bs)×Int×Int)=>z19 s.1 s.2.1 s.2.2.1 s.2.2.2.1 s.2.2.2.2.1 s.2.2.2.2.2.1 s.2.2.2.2.2.2.1 s.2.2.2.2.2.2.2.1 s.2.2.2.2.2.2.2.2.1 s.2.2.2.2.2.2.2.2.2.1 s.2.2.2.2.2.2.2.2.2.2) (stR (txT e (x::L)) k i c)=some r:=fun r h=>y35 h
  have hbody:z19 (txT e (x::L)) (k:Int) (i:Int) c.Id c.Subject c.Issuer c.Parent c.Audience c.Scopes c.From c.To=(if (L=[]∧e=false)∨okK k (kd (z40 x))=false∨[]∈spl 32 x then some (.inr (errC i)) else match setC (kd (z40 x)) c (spl 32 x) with | none=>some (.inr (errC i)) | some c'=>some (.inl (stR (txT e L) (kd (z40 x)+1) (i+1) c'))):=by
   unfold z19
   rw [if_neg (by simpa using hne),hcutm]
   simp only [Option.bind_some]
   rw [y83 x 32 (by omega)]
   simp only [Option.bind_some,hw0]
   show ((z2q kdL (z40 x)).bind fun r23=>(sub? kdL (k:Int) (max r23 (k:Int))).bind _)=_
   rw [hidx]
   simp only [Option.bind_some,hsub]
   rw [hcon _ (by simp [kdL]; omega)]
   simp only [Option.bind_some]
   by_cases c1:L=[]∧e=false
   ·have:en=false:=by cases en; rfl; exact absurd c1 (hen.1 rfl)
    rw [if_pos (by simp [this]),if_pos (.inl c1),herr]
   ·have hen':en=true:=hen.2 c1
    rw [if_neg (by simp [hen'])]
    by_cases hj:kd (z40 x) < 7
    ·rw [x9k,if_pos hj]
     simp only [if_pos hj]
     by_cases hkj:(kd (z40 x):Int) < (k:Int)
     ·rw [if_pos (by simpa using hkj),if_pos (.inr (.inl (by unfold okK; simp; intro _ h; omega)))]
      rfl
     ·rw [if_neg (by simpa using hkj)]
      have hm:=w3u ⟨k,by omega⟩ ⟨kd (z40 x),hj⟩
      simp only at hm
      rw [hm]
      have hok:okK k (kd (z40 x))=skB k (kd (z40 x)):=by
       unfold okK
       rw [decide_eq_true hj,decide_eq_true (by omega)]; simp
      cases hsk:skB k (kd (z40 x))
      ·rw [if_pos (by simp),if_pos (.inr (.inl (by rw [hok,hsk])))]
       rfl
      ·rw [if_neg (by simp),x3u _ (by have:=y41 32 x; omega)]
       simp only [Option.bind_some]
       by_cases hem:[]∈spl 32 x
       ·rw [if_pos (by rw [List.any_eq_true]; exact ⟨[],hem,by simp⟩),if_pos (.inr (.inr hem))]
        rfl
       ·have hany:((spl 32 x).any fun y=>decide ([]=y))=false:=by
         rw [List.any_eq_false]
         intro y hy hd
         have:([]:Bs)=y:=of_decide_eq_true hd
         rw [← this] at hy
         exact hem hy
        rw [hany,if_neg (by simp)]
        rw [if_neg (by rintro (h | h | h); exact c1 h; (rw [hok,hsk] at h; cases h); exact hem h)]
        have hhd:z40 x=kdL.getD (kd (z40 x)) []:=(x7p _ _ hj).1 rfl
        obtain ⟨q,q1,q2,q3⟩:=w60 c (spl 32 x) (x5u (by omega)) (kd (z40 x)) hj (by rw [hw0,← hhd])
        have q1':z8a (z0e.mk c.Id c.Subject c.Issuer c.Parent c.Audience c.Scopes c.From c.To) (spl 32 x)=some q:=q1
        rw [q1']
        simp only [Option.bind_some]
        cases hs:setC (kd (z40 x)) c (spl 32 x) with
        | none =>
         rw [q2 hs]
         rfl
        | some c' =>
         rw [q3 c' hs]
         unfold z2l
         rw [y1g (show -9223372036854775808≤(kd (z40 x):Int)+1∧(kd (z40 x):Int)+1≤9223372036854775807 by omega),y1g (show -9223372036854775808≤(i:Int)+1∧(i:Int)+1≤9223372036854775807 by omega)]
         rfl
    ·rw [x9k,if_neg hj]
     rw [if_pos (by simp; omega),if_pos (.inr (.inl (by unfold okK; simp [hj])))]
     rfl
  have hiter:iter (fun (s:Bs×Int×Int×Bs×Bs×Bs×Bs×(List Bs)×(List Bs)×Int×Int)=>z19 s.1 s.2.1 s.2.2.1 s.2.2.2.1 s.2.2.2.2.1 s.2.2.2.2.2.1 s.2.2.2.2.2.2.1 s.2.2.2.2.2.2.2.1 s.2.2.2.2.2.2.2.2.1 s.2.2.2.2.2.2.2.2.2.1 s.2.2.2.2.2.2.2.2.2.2) (stR (txT e (x::L)) k i c)=some (if (L=[]∧e=false)∨okK k (kd (z40 x))=false∨[]∈spl 32 x then errC i else match setC (kd (z40 x)) c (spl 32 x) with | none=>errC i | some c'=>rdC e L (kd (z40 x)+1) (i+1) c'):=by
   by_cases hcd:(L=[]∧e=false)∨okK k (kd (z40 x))=false∨[]∈spl 32 x
   ·rw [if_pos hcd] at hbody ⊢
    exact hst _ hbody
   ·rw [if_neg hcd] at hbody ⊢
    cases hs:setC (kd (z40 x)) c (spl 32 x) with
    | none =>
     rw [hs] at hbody
     exact hst _ hbody
    | some c' =>
     rw [hs] at hbody
     have hj:kd (z40 x) < 7:=by
      by_cases hj:kd (z40 x) < 7
      ·exact hj
      ·exact absurd (.inr (.inl (by unfold okK; simp [hj]))) hcd
     have htl:(txT e L).length≤(txT e (x::L)).length:=by
      cases L with
      | nil=>simp [txT]
      | cons y l=>rw [x1k]; simp; omega
     rw [y0p (s':=stR (txT e L) (kd (z40 x)+1) (i+1) c') hbody]
     exact refC e L (kd (z40 x)+1) (i+1) c' (by omega) (by omega) (x8o hc (x5u (by omega)) hs) (fun y hy=>hL y (by simp [hy])) (fun h=>by
      cases L with
      | nil=>simp
      | cons y l=>have:=he h; rwa [List.getLast?_cons_cons] at this) (by omega)
  rw [hiter,rdC]
end Go.Proofs.YtkckjgkfljgjpaaGreatDoor
