/- Plain: claims that are read: the program. -/
import Derived.Test.YtkckjgkfljgjpaaGreatDoorCxZg
namespace Go.Proofs.YtkckjgkfljgjpaaGreatDoor
set_option linter.unusedVariables false
set_option linter.unusedSimpArgs false
set_option linter.unusedSectionVars false
set_option maxRecDepth 20000
abbrev CRd:=z0i
noncomputable def pT (a b c d:Bs) (au sc:List Bs) (s:CRd):Option (z0e×Int×Int):=
 (z2e s).bind fun (r17:(Int×Int×z0i))=>if (r17.2.2.bad_ || (decide (r17.2.2.at_ < (r17.2.2.lines_.length:Int)))) then (some ((z0e.mk [] [] [] [] [] [] 0 0),r17.2.2.at_,9)) else ((z6q (z0e.mk a b c d au sc r17.1 r17.2.1)).bind fun (r20:(Int))=>if decide (r20≠0) then (some ((z0e.mk [] [] [] [] [] [] 0 0),0,r20)) else (some ((z0e.mk a b c d au sc r17.1 r17.2.1),0,0)))
noncomputable def pM (a b c d:Bs) (au:List Bs) (s:CRd):=(z1c s [109,97,121] false).bind fun (r15:((List Bs)×z0i))=>pT a b c d au r15.1 r15.2
noncomputable def pF (a b c d:Bs) (s:CRd):=(z1c s [102,111,114] false).bind fun (r13:((List Bs)×z0i))=>pM a b c d r13.1 r13.2
noncomputable def pP (a b c:Bs) (s:CRd):=(z1b s [112,97,114,101,110,116] false).bind fun (r11:(Bs×z0i))=>pF a b c r11.1 r11.2
noncomputable def pI (a b:Bs) (s:CRd):=(z1b s [105,115,115,117,101,114] true).bind fun (r9:(Bs×z0i))=>pP a b r9.1 r9.2
noncomputable def pS (a:Bs) (s:CRd):=(z1b s [115,117,98,106,101,99,116] true).bind fun (r7:(Bs×z0i))=>pI a r7.1 r7.2
noncomputable def pD (s:CRd):=(z1b s [105,100] true).bind fun (r5:(Bs×z0i))=>pS r5.1 r5.2
theorem y9d (L:List Bs) (e:Bool) (i:Int) (w:Bs) (m:Bool):z1c (z0i.mk L e i true) w m=some ([],z0i.mk L e i true):=by
 unfold z1c; rfl
theorem x5g (L:List Bs) (e:Bool) (i:Int) (w:Bs) (m:Bool):z1b (z0i.mk L e i true) w m=some ([],z0i.mk L e i true):=by
 unfold z1b
 rw [y9d]; rfl
theorem w57 (a b c d:Bs) (au sc L:List Bs) (e:Bool) (i:Nat):pT a b c d au sc (z0i.mk L e (i:Int) true)=some (errC i):=by
 unfold pT z2e
 rw [y9d]; rfl
theorem w59 (a b c d:Bs) (au L:List Bs) (e:Bool) (i:Nat):pM a b c d au (z0i.mk L e (i:Int) true)=some (errC i):=by
 unfold pM; rw [y9d]; exact w57 a b c d au [] L e i
theorem w6b (a b c d:Bs) (L:List Bs) (e:Bool) (i:Nat):pF a b c d (z0i.mk L e (i:Int) true)=some (errC i):=by
 unfold pF; rw [y9d]; exact w59 a b c d [] L e i
theorem w58 (a b c:Bs) (L:List Bs) (e:Bool) (i:Nat):pP a b c (z0i.mk L e (i:Int) true)=some (errC i):=by
 unfold pP; rw [x5g]; exact w6b a b c [] L e i
theorem w6a (a b:Bs) (L:List Bs) (e:Bool) (i:Nat):pI a b (z0i.mk L e (i:Int) true)=some (errC i):=by
 unfold pI; rw [x5g]; exact w58 a b [] L e i
theorem w61 (a:Bs) (L:List Bs) (e:Bool) (i:Nat):pS a (z0i.mk L e (i:Int) true)=some (errC i):=by
 unfold pS; rw [x5g]; exact w6a a [] L e i
section
variable {Ls:List Bs} {e:Bool} (hn:Ls.length≤10000) (hp:∀ x,x∈Ls→x.length≤10000)
include hn hp
theorem x1x (i:Nat) (h:Ls.drop i=[]) (hi:i≤Ls.length) (w:Bs) (m:Bool):z1c (z0i.mk Ls e (i:Int) false) w m=some ([],z0i.mk Ls e (i:Int) m):=by
 have:i=Ls.length:=by have:=List.drop_eq_nil_iff.1 h; omega
 unfold z1c
 rw [if_neg (by simp),if_pos (decide_eq_true (by show (i:Int)=(Ls.length:Int); omega))]
theorem x48 {i:Nat} {x:Bs} {L:List Bs} (h:Ls.drop i=x::L) (k:Nat) (hk:k < 7) (m:Bool):z1c (z0i.mk Ls e (i:Int) false) (kdL.getD k []) m =
  some (if kd (z40 x)≠k then ([],z0i.mk Ls e (i:Int) m) else if []∈y1v x∨(L=[]∧e=false) then ([],z0i.mk Ls e (i:Int) true) else (y1v x,z0i.mk Ls e ((i+1:Nat):Int) false)):=by
 have hlt:i < Ls.length:=by
  have:=congrArg List.length h
  simp at this; omega
 have hx:Ls[i]?=some x:=by
  have:=congrArg (·[0]?) h
  simpa using this
 have hL:L.length=Ls.length - i - 1:=by
  have:=congrArg List.length h
  simp at this; omega
 have hxl:=hp x (List.mem_of_getElem? hx)
 have hcut:Lib.cut x [32]=(z40 x,(if 32∈x then (Lib.cut x [32]).2.1 else []),decide (32∈x))∧spl 32 (if 32∈x then (Lib.cut x [32]).2.1 else [])=y1v x:=by
  by_cases hm:32∈x
  ·obtain ⟨p,q,rfl,h2⟩:=y6m hm
   have e1:=x2i 32 p q h2
   unfold z40 y1v
   rw [e1,splA 32 q p h2]
   simp
  ·obtain ⟨e1,e2,e3⟩:=x5d hm
   rw [w2x 32 x hm,e2,e3]
   simp [hm,spl]
 obtain ⟨c1,c2⟩:=hcut
 generalize hrest:(if 32∈x then (Lib.cut x [32]).2.1 else [])=rest at c1 c2
 have hrl:rest.length≤x.length:=by
  rw [← hrest]
  split
  ·rename_i hm
   obtain ⟨p,q,rfl,h2⟩:=y6m hm
   rw [x2i 32 p q h2]
   simp; omega
  ·simp
 have hcm:z92 x [32]=some (z40 x,rest,decide (32∈x)):=by unfold z92; rw [if_pos (by omega),c1]
 unfold z1c
 rw [if_neg (by simp),if_neg (by simp; omega)]
 rw [x0h,hx]
 simp only [Option.bind_some,hcm]
 by_cases hkd:kd (z40 x)=k
 ·have hh:=(x7p (z40 x) k hk).1 hkd
  rw [if_neg (by simpa using hh),if_neg (not_not_intro hkd),w0s rest (by omega),c2]
  simp only [Option.bind_some]
  have hw:wr ((Ls.length:Int) - 1)=(Ls.length:Int) - 1:=y1g (by omega)
  have hw2:wr ((i:Int)+1)=((i+1:Nat):Int):=by rw [y1g (by omega)]; omega
  rw [hw,hw2]
  have hlast:L=[]↔(i:Int)=(Ls.length:Int) - 1:=by
   rw [← List.length_eq_zero_iff]; omega
  by_cases hem:[]∈y1v x
  ·have hy:((y1v x).any fun y=>decide ([]=y))=true:=by rw [List.any_eq_true]; exact ⟨[],hem,by simp⟩
   rw [hy,if_pos (by simp),if_pos (.inl hem)]
  ·have hany:((y1v x).any fun y=>decide ([]=y))=false:=by
    rw [List.any_eq_false]
    intro y hy hd
    have:([]:Bs)=y:=of_decide_eq_true hd
    rw [← this] at hy
    exact hem hy
   rw [hany]
   by_cases hl2:L=[]∧e=false
   ·rw [if_pos (by rw [hl2.2,decide_eq_true (hlast.1 hl2.1)]; simp),if_pos (.inr hl2)]
   ·rw [if_neg,if_neg (by rintro (h | h); exact hem h; exact hl2 h)]
    intro hh
    simp only [Bool.not_false,Bool.not_true,Bool.false_or,Bool.and_eq_true,Bool.not_eq_true',decide_eq_true_eq] at hh
    exact hl2 ⟨hlast.2 hh.2,hh.1⟩
 ·rw [if_pos (by simpa using fun hh=>hkd ((x7p (z40 x) k hk).2 hh)),if_pos hkd]
theorem w3p (i:Nat) (h:Ls.drop i=[]) (hi:i≤Ls.length) (w:Bs) (m:Bool):z1b (z0i.mk Ls e (i:Int) false) w m=some ([],z0i.mk Ls e (i:Int) m):=by
 unfold z1b
 rw [x1x hn hp i h hi]
 rfl
theorem w5t {i:Nat} {x:Bs} {L:List Bs} (h:Ls.drop i=x::L) (k:Nat) (hk:k < 7) (m:Bool):z1b (z0i.mk Ls e (i:Int) false) (kdL.getD k []) m =
  some (if kd (z40 x)≠k then ([],z0i.mk Ls e (i:Int) m) else if []∈y1v x∨(L=[]∧e=false)∨(y1v x).length≠1 then ([],z0i.mk Ls e (i:Int) true) else ((y1v x).getD 0 [],z0i.mk Ls e ((i+1:Nat):Int) false)):=by
 have hlt:i < Ls.length:=by
  have:=congrArg List.length h
  simp at this; omega
 have hl:=x48 (e:=e) hn hp h k hk m
 unfold z1b
 by_cases hkd:kd (z40 x)=k
 ·rw [if_neg (not_not_intro hkd)] at hl
  rw [hl,if_neg (not_not_intro hkd)]
  by_cases hc:[]∈y1v x∨(L=[]∧e=false)
  ·rw [if_pos hc,if_pos (show []∈y1v x∨(L=[]∧e=false)∨(y1v x).length≠1 from hc.elim .inl (fun h => .inr (.inl h)))]
   rfl
  ·rw [if_neg hc]
   have hne:y1v x≠[]:=by
    by_cases hm:32∈x
    ·exact (x3s hm).2
    ·rw [(x5d hm).2.2]; simp
   by_cases h1:(y1v x).length=1
   ·obtain ⟨y,hy⟩:=List.length_eq_one_iff.1 h1
    rw [if_neg (show ¬ ([]∈y1v x∨(L=[]∧e=false)∨(y1v x).length≠1) by rintro (h | h | h); exact hc (.inl h); exact hc (.inr h); exact h h1),hy]
    rfl
   ·have hlen:1 < (y1v x).length:=by
     have:=List.length_pos_iff.2 hne
     omega
    rw [if_pos (show []∈y1v x∨(L=[]∧e=false)∨(y1v x).length≠1 from .inr (.inr h1))]
    simp only [Option.bind_some]
    rw [if_pos (decide_eq_true (by omega)),y1g (by omega)]
    unfold z5a
    rw [if_pos (decide_eq_true (by simp only; omega))]
    simp only
    congr 3
    omega
 ·rw [if_pos hkd] at hl
  rw [hl,if_pos hkd]
  rfl
theorem x0c {i:Nat} {x:Bs} {L:List Bs} (h:Ls.drop i=x::L):Ls.drop (i+1)=L∧i+1≤Ls.length∧x∈Ls:=by
 have hlt:i < Ls.length:=by
  have:=congrArg List.length h
  simp at this; omega
 refine ⟨?_,hlt,?_⟩
 ·rw [← List.drop_drop,h]; rfl
 ·exact List.mem_of_mem_drop (by rw [h]; simp)
theorem x4c {x:Bs} (h:x.length≤10000):Sh (y1v x):=by
 by_cases hm:32∈x
 ·have h1:=x5u (x:=x) (by omega)
  rw [(x3s hm).1] at h1
  exact ⟨by have:=h1.1; simp at this; omega,fun y hy=>h1.2 y (by simp [hy])⟩
 ·rw [(x5d hm).2.2]; exact ⟨by simp,by simp⟩
theorem x08 {x:Bs} {k:Nat} (hk:k < 7) (h:kd (z40 x)=k) (hm:32∈x):[]∈spl 32 x↔[]∈y1v x:=by
 have hh:=(x7p (z40 x) k hk).1 h
 have hne:z40 x≠[]:=by
  rw [hh]
  have hc:k=0∨k=1∨k=2∨k=3∨k=4∨k=5∨k=6:=by omega
  rcases hc with rfl | rfl | rfl | rfl | rfl | rfl | rfl <;> decide
 rw [(x3s hm).1]
 simp [Ne.symm hne]
theorem x8n {x:Bs} (hm:32 ∉ x) (k:Nat) (c:z0e):setC k c (spl 32 x)=none:=by
 rw [(x5d hm).1]
 unfold setC
 split <;> simp
theorem T_eq (a b c d:Bs) (au sc:List Bs) (i:Nat) (hi:i≤Ls.length) (hc:ClB (z0e.mk a b c d au sc 0 0)):pT a b c d au sc (z0i.mk Ls e (i:Int) false)=some (rdC e (Ls.drop i) 6 i (z0e.mk a b c d au sc 0 0)):=by
 cases hd:Ls.drop i with
 | nil =>
  unfold pT z2e
  rw [x1x hn hp i hd hi]
  rfl
 | cons x L =>
  obtain ⟨d1,d2,d3⟩:=x0c hn hp hd
  have hxl:=hp x d3
  have hline:=x48 (e:=e) hn hp hd 6 (by omega) true
  have hline:z1c (z0i.mk Ls e (i:Int) false) [116,105,109,101] true=_:=hline
  by_cases hkd:kd (z40 x)=6
  ·rw [x4x (by omega) hkd]
   rw [if_neg (not_not_intro hkd)] at hline
   by_cases hcond:[]∈y1v x∨(L=[]∧e=false)
   ·rw [if_pos hcond] at hline
    have hr:pT a b c d au sc (z0i.mk Ls e (i:Int) false)=some (errC i):=by
     unfold pT z2e
     rw [hline]; rfl
    rw [hr]
    by_cases hm:32∈x
    ·rw [if_pos (hcond.elim (fun h => .inr ((x08 hn hp (by omega) hkd hm).2 h)) .inl)]
    ·split
     ·rfl
     ·rw [x8n hn hp hm]
   ·rw [if_neg hcond] at hline
    have hm:32∈x:=by
     by_cases hm:32∈x
     ·exact hm
     ·exact absurd (.inl (by rw [(x5d hm).2.2]; simp)) hcond
    rw [if_neg (by rintro (h | h); exact hcond (.inr h); exact hcond (.inl ((x08 hn hp (by omega) hkd hm).1 h)))]
    have hts:=x4c hn hp hxl
    rw [(x3s hm).1]
    generalize htw:y1v x=tw at *
    have hset:setC 6 (z0e.mk a b c d au sc 0 0) (z40 x::tw)=if (z40 x::tw).length=3∧okN 15 ((z40 x::tw).getD 1 [])=true∧okN 15 ((z40 x::tw).getD 2 [])=true then some (z0e.mk a b c d au sc (valB ((z40 x::tw).getD 1 [])) (valB ((z40 x::tw).getD 2 []))) else none:=rfl
    rw [hset]
    unfold pT z2e
    rw [hline]
    simp only [Option.bind_some]
    rw [if_neg (by simp)]
    by_cases h2:tw.length=2
    ·obtain ⟨y,z,rfl⟩:∃ y z,tw=[y,z]:=by
      match tw,h2 with
      | [y,z],_=>exact ⟨y,z,rfl⟩
     have k1:y0s y 15=_:=x04 y 15 (by omega) (hts.2 y (by simp))
     have k2:y0s z 15=_:=x04 z 15 (by omega) (hts.2 z (by simp))
     rw [if_pos (by simp)]
     simp only [List.getElem?_cons_zero,List.getElem?_cons_succ,Option.bind_some,k1,k2]
     by_cases ho:okN 15 y=true∧okN 15 z=true
     ·obtain ⟨o1,o2⟩:=ho
      have hs:(if [z40 x,y,z].length=3∧okN 15 ([z40 x,y,z].getD 1 [])=true∧okN 15 ([z40 x,y,z].getD 2 [])=true then some (z0e.mk a b c d au sc (valB ([z40 x,y,z].getD 1 [])) (valB ([z40 x,y,z].getD 2 []))) else none)=some (z0e.mk a b c d au sc (valB y) (valB z)):=if_pos ⟨rfl,o1,o2⟩
      rw [hs,o1,o2]
      rw [if_pos (by simp)]
      simp only [Option.bind_some,if_true,Bool.false_or]
      have hcv:ClB (z0e.mk a b c d au sc (valB y) (valB z)):=⟨hc.id,hc.subject,hc.issuer,hc.parent,hc.aud,hc.sc⟩
      cases L with
      | nil =>
       have hl:Ls.length=i+1:=by
        have:=List.drop_eq_nil_iff.1 d1
        omega
       rw [if_neg (by simp; omega),w0a _ hcv]
       simp only [Option.bind_some]
       show _=some (if (7:Nat)=7 then finC _ else errC (i+1))
       rw [if_pos rfl]
       unfold finC
       show _=some (if clF (z0e.mk a b c d au sc (valB y) (valB z))≠0 then (y5j,0,clF (z0e.mk a b c d au sc (valB y) (valB z))) else (z0e.mk a b c d au sc (valB y) (valB z),0,0))
       by_cases h0:clF (z0e.mk a b c d au sc (valB y) (valB z))=0 <;> simp [h0,y5j]
      | cons u L' =>
       have hl:i+1 < Ls.length:=by
        have:=congrArg List.length d1
        simp at this; omega
       rw [if_pos (decide_eq_true (by omega))]
       have hs:=w1y ⟨kd (z40 u),by have:=x9j (z40 u); omega⟩
       simp only at hs
       show _=some (rdC e (u::L') 7 (i+1) _)
       rw [rdC,if_pos (.inr (.inl hs))]
       rfl
     ·rw [if_neg (by simp only [Bool.and_eq_true]; exact ho),if_neg (fun h=>ho ⟨by simpa using h.2.1,by simpa using h.2.2⟩)]
      unfold z3e
      rw [y1g (by simp only; omega)]
      show some (y5j,((i+1:Nat):Int) - 1,(9:Int))=some (errC i)
      unfold errC
      congr 3
      omega
    ·rw [if_neg (by simp; omega),if_neg (fun h=>h2 (by simpa using h.1))]
     unfold z3e
     rw [y1g (by simp only; omega)]
     show some (y5j,((i+1:Nat):Int) - 1,(9:Int))=some (errC i)
     unfold errC
     congr 3
     omega
  ·rw [x54 (by omega) hkd]
   rw [if_pos hkd] at hline
   unfold pT z2e
   rw [hline]; rfl
theorem w5v {k:Nat} (hk:k=4∨k=5) {R:List Bs→CRd→Option (z0e×Int×Int)} {c:z0e} {mk:List Bs→z0e} (i:Nat) (hi:i≤Ls.length)
  (hbad:∀ i,R [] (z0i.mk Ls e ((i:Nat):Int) true)=some (errC i)) (hmk:mk []=c) (hset:∀ w,setC k c w=if 1 < w.length then some (mk (w.drop 1)) else none)
  (hgood:∀ w i,Sh w→i≤Ls.length→R w (z0i.mk Ls e ((i:Nat):Int) false)=some (rdC e (Ls.drop i) (k+1) i (mk w))) :
  (z1c (z0i.mk Ls e (i:Int) false) (kdL.getD k []) false).bind (fun r=>R r.1 r.2)=some (rdC e (Ls.drop i) k i c):=by
 have hsh:Sh ([]:List Bs):=⟨by simp,by simp⟩
 cases hd:Ls.drop i with
 | nil =>
  rw [x1x hn hp i hd hi]
  simp only [Option.bind_some]
  rw [hgood [] i hsh hi,hd]
  simp only [rdC]
  rw [if_neg (by omega),if_neg (by omega)]
 | cons x L =>
  obtain ⟨d1,d2,d3⟩:=x0c hn hp hd
  have hxl:=hp x d3
  rw [x48 hn hp hd k (by omega)]
  simp only [Option.bind_some]
  by_cases hkd:kd (z40 x)=k
  ·rw [x4x (by omega) hkd,if_neg (not_not_intro hkd)]
   by_cases hcond:[]∈y1v x∨(L=[]∧e=false)
   ·rw [if_pos hcond,hbad]
    by_cases hm:32∈x
    ·rw [if_pos (hcond.elim (fun h => .inr ((x08 hn hp (by omega) hkd hm).2 h)) .inl)]
    ·split
     ·rfl
     ·rw [x8n hn hp hm]
   ·rw [if_neg hcond]
    have hm:32∈x:=by
     by_cases hm:32∈x
     ·exact hm
     ·exact absurd (.inl (by rw [(x5d hm).2.2]; simp)) hcond
    rw [if_neg (by rintro (h | h); exact hcond (.inr h); exact hcond (.inl ((x08 hn hp (by omega) hkd hm).1 h)))]
    rw [hgood _ (i+1) (x4c hn hp hxl) d2,d1,hset,(x3s hm).1,if_pos (by have:=List.length_pos_iff.2 (x3s hm).2; simp; omega)]
    simp
  ·rw [if_pos hkd,hgood [] i hsh hi,hd,hmk,x53 (by omega) hkd]
theorem oneP {k:Nat} (hk:k=0∨k=1∨k=2∨k=3) {R:Bs→CRd→Option (z0e×Int×Int)} {c:z0e} {mk:Bs→z0e} (i:Nat) (hi:i≤Ls.length)
  (hbad:∀ i,R [] (z0i.mk Ls e ((i:Nat):Int) true)=some (errC i)) (hmk:mk []=c) (hset:∀ w,setC k c w=if w.length=2 then some (mk (w.getD 1 [])) else none)
  (hgood:∀ w i,w.length≤1000000→i≤Ls.length→R w (z0i.mk Ls e ((i:Nat):Int) false)=some (rdC e (Ls.drop i) (k+1) i (mk w))) :
  (z1b (z0i.mk Ls e (i:Int) false) (kdL.getD k []) (decide (k≠3))).bind (fun r=>R r.1 r.2)=some (rdC e (Ls.drop i) k i c):=by
 cases hd:Ls.drop i with
 | nil =>
  rw [w3p hn hp i hd hi]
  simp only [Option.bind_some]
  by_cases h3:k=3
  ·rw [decide_eq_false (not_not_intro h3),hgood [] i (by simp) hi,hd]
   simp only [rdC]
   rw [if_neg (by omega),if_neg (by omega)]
  ·rw [decide_eq_true h3,hbad]
   simp only [rdC]
   rw [if_neg (by omega)]
 | cons x L =>
  obtain ⟨d1,d2,d3⟩:=x0c hn hp hd
  have hxl:=hp x d3
  rw [w5t hn hp hd k (by omega)]
  simp only [Option.bind_some]
  by_cases hkd:kd (z40 x)=k
  ·rw [x4x (by omega) hkd,if_neg (not_not_intro hkd)]
   by_cases hcond:[]∈y1v x∨(L=[]∧e=false)∨(y1v x).length≠1
   ·rw [if_pos hcond,hbad]
    by_cases hm:32∈x
    ·rcases hcond with h | h | h
     ·rw [if_pos (.inr ((x08 hn hp (by omega) hkd hm).2 h))]
     ·rw [if_pos (.inl h)]
     ·split
      ·rfl
      ·rw [hset,(x3s hm).1,if_neg (by simp; omega)]
    ·split
     ·rfl
     ·rw [x8n hn hp hm]
   ·rw [if_neg hcond]
    have hm:32∈x:=by
     by_cases hm:32∈x
     ·exact hm
     ·exact absurd (.inl (by rw [(x5d hm).2.2]; simp)) hcond
    have hlen:(y1v x).length=1:=by
     by_cases h:(y1v x).length=1
     ·exact h
     ·exact absurd (.inr (.inr h)) hcond
    rw [if_neg (by rintro (h | h); exact hcond (.inr (.inl h)); exact hcond (.inl ((x08 hn hp (by omega) hkd hm).1 h)))]
    have hts:=x4c hn hp hxl
    obtain ⟨y,hy⟩:=List.length_eq_one_iff.1 hlen
    rw [hset,(x3s hm).1,hy,if_pos (by simp)]
    rw [hy] at hts
    show R y _=_
    rw [hgood y (i+1) (hts.2 y (by simp)) d2,d1]
    rfl
  ·rw [if_pos hkd]
   by_cases h3:k=3
   ·rw [decide_eq_false (not_not_intro h3),hgood [] i (by simp) hi,hd,hmk,x53 (by omega) hkd]
   ·rw [decide_eq_true h3,hbad,x54 (by omega) hkd]
theorem M_eq (a b c d:Bs) (au:List Bs) (i:Nat) (hi:i≤Ls.length) (hc:ClB (z0e.mk a b c d au [] 0 0)):pM a b c d au (z0i.mk Ls e (i:Int) false)=some (rdC e (Ls.drop i) 5 i (z0e.mk a b c d au [] 0 0)):=
 w5v hn hp (k:=5) (.inr rfl) (R:=fun w s=>pT a b c d au w s) (mk:=fun w=>z0e.mk a b c d au w 0 0) i hi (fun i=>w57 a b c d au [] Ls e i) rfl (fun w=>rfl) fun w i hw hi=>T_eq hn hp a b c d au w i hi ⟨hc.id,hc.subject,hc.issuer,hc.parent,hc.aud,hw⟩
theorem F_eq (a b c d:Bs) (i:Nat) (hi:i≤Ls.length) (hc:ClB (z0e.mk a b c d [] [] 0 0)):pF a b c d (z0i.mk Ls e (i:Int) false)=some (rdC e (Ls.drop i) 4 i (z0e.mk a b c d [] [] 0 0)):=
 w5v hn hp (k:=4) (.inl rfl) (R:=fun w s=>pM a b c d w s) (mk:=fun w=>z0e.mk a b c d w [] 0 0) i hi (fun i=>w59 a b c d [] Ls e i) rfl (fun w=>rfl) fun w i hw hi=>M_eq hn hp a b c d w i hi ⟨hc.id,hc.subject,hc.issuer,hc.parent,hw,hc.sc⟩
theorem P_eq (a b c:Bs) (i:Nat) (hi:i≤Ls.length) (hc:ClB (z0e.mk a b c [] [] [] 0 0)):pP a b c (z0i.mk Ls e (i:Int) false)=some (rdC e (Ls.drop i) 3 i (z0e.mk a b c [] [] [] 0 0)):=
 oneP hn hp (k:=3) (by omega) (R:=fun w s=>pF a b c w s) (mk:=fun w=>z0e.mk a b c w [] [] 0 0) i hi (fun i=>w6b a b c [] Ls e i) rfl (fun w=>rfl) fun w i hw hi=>F_eq hn hp a b c w i hi ⟨hc.id,hc.subject,hc.issuer,hw,hc.aud,hc.sc⟩
theorem I_eq (a b:Bs) (i:Nat) (hi:i≤Ls.length) (hc:ClB (z0e.mk a b [] [] [] [] 0 0)):pI a b (z0i.mk Ls e (i:Int) false)=some (rdC e (Ls.drop i) 2 i (z0e.mk a b [] [] [] [] 0 0)):=
 oneP hn hp (k:=2) (by omega) (R:=fun w s=>pP a b w s) (mk:=fun w=>z0e.mk a b w [] [] [] 0 0) i hi (fun i=>w58 a b [] Ls e i) rfl (fun w=>rfl) fun w i hw hi=>P_eq hn hp a b w i hi ⟨hc.id,hc.subject,hw,hc.parent,hc.aud,hc.sc⟩
theorem S_eq (a:Bs) (i:Nat) (hi:i≤Ls.length) (hc:ClB (z0e.mk a [] [] [] [] [] 0 0)):pS a (z0i.mk Ls e (i:Int) false)=some (rdC e (Ls.drop i) 1 i (z0e.mk a [] [] [] [] [] 0 0)):=
 oneP hn hp (k:=1) (by omega) (R:=fun w s=>pI a w s) (mk:=fun w=>z0e.mk a w [] [] [] [] 0 0) i hi (fun i=>w6a a [] Ls e i) rfl (fun w=>rfl) fun w i hw hi=>I_eq hn hp a w i hi ⟨hc.id,hw,hc.issuer,hc.parent,hc.aud,hc.sc⟩
theorem D_eq (i:Nat) (hi:i≤Ls.length):pD (z0i.mk Ls e (i:Int) false)=some (rdC e (Ls.drop i) 0 i (z0e.mk [] [] [] [] [] [] 0 0)):=
 oneP hn hp (k:=0) (by omega) (R:=fun w s=>pS w s) (mk:=fun w=>z0e.mk w [] [] [] [] [] 0 0) i hi (fun i=>w61 [] Ls e i) rfl (fun w=>rfl) fun w i hw hi=>S_eq hn hp w i hi ⟨hw,by simp,by simp,by simp,x5w,x5w⟩
end
def rdT (t:Bs):z0e×Int×Int:=if 4000 < t.length then (y5j,0,2) else rdC (lnS t).2 (lnS t).1 0 0 y5j
theorem x4w (t:Bs) (hl:t.length≤1000000):z91 t=some (rdT t):=by
 unfold z91 rdT
 by_cases h:4000 < t.length
 ·rw [if_pos (by simp; omega),if_pos h]; rfl
 ·rw [if_neg (by simp; omega),if_neg h,w14 t hl]
  simp only [Option.bind_some]
  show pD (z0i.mk (lnS t).1 (lnS t).2 0 false)=_
  have h1:(lnS t).1.length≤10000∧∀ x,x∈(lnS t).1→x.length≤10000:=by
   have hw:=y41 10 t
   have hp:=y3f 10 t
   unfold lnS
   split
   ·exact ⟨by simp; omega,fun x hx=>by have:=hp x ((List.dropLast_sublist _).subset hx); omega⟩
   ·exact ⟨by simp only; omega,fun x hx=>by have:=hp x hx; omega⟩
  exact D_eq h1.1 h1.2 0 (Nat.zero_le _)
theorem x4v (t:Bs) (hl:t.length≤1000000):z8g t=some (rdT t):=by
 unfold z8g rdT
 by_cases h:4000 < t.length
 ·rw [if_pos (by simp; omega),if_pos h]; rfl
 ·rw [if_neg (by simp; omega),if_neg h]
  have hw:=y41 10 t
  have hp:=y3f 10 t
  have hb:=splB 10 t
  have ht:=x70 (spl 10 t) (x0w 10 t) t rfl
  have hkey:t=txT (lnS t).2 (lnS t).1∧(lnS t).1.length≤5000∧(∀ x,x∈(lnS t).1→10 ∉ x∧x.length≤10000)∧((lnS t).2=false→(lnS t).1.getLast?≠some []):=by
   unfold lnS
   by_cases hlast:(spl 10 t).getLast?=some []
   ·rw [if_pos hlast] at ht ⊢
    exact ⟨ht,by simp; omega,fun x hx=>⟨hb x ((List.dropLast_sublist _).subset hx),by have:=hp x ((List.dropLast_sublist _).subset hx); omega⟩,fun h=>by cases h⟩
   ·rw [if_neg hlast] at ht ⊢
    exact ⟨ht,by simp only; omega,fun x hx=>⟨hb x hx,by have:=hp x hx; omega⟩,fun _=>hlast⟩
  obtain ⟨k1,k2,k3,k4⟩:=hkey
  have:=refC (lnS t).2 (lnS t).1 0 0 y5j (by omega) (by omega) y14 k3 k4 (by rw [← k1]; omega)
  rw [← k1] at this
  exact this
theorem w2p (e:Bool):∀ (L:List Bs) (k i:Nat) (c:z0e),ClB c→(∀ x,x∈L→x.length≤10000)→ClB (rdC e L k i c).1
 | [],k,i,c,hc,_=>by
  rw [rdC]
  split
  ·unfold finC; split
   ·exact y14
   ·exact hc
  ·exact y14
 | x::L,k,i,c,hc,hL=>by
  rw [rdC]
  split
  ·exact y14
  ·split
   ·exact y14
   ·rename_i c' hs
    exact w2p e L _ _ c' (x8o hc (x5u (by have:=hL x (by simp); omega)) hs) fun y hy=>hL y (by simp [hy])
theorem w5o (t:Bs):ClB (rdT t).1:=by
 unfold rdT
 split
 ·exact y14
 ·refine w2p _ _ _ _ _ y14 fun x hx => ?_
  have hp:=y3f 10 t
  unfold lnS at hx
  split at hx
  ·have:=hp x ((List.dropLast_sublist _).subset hx); omega
  ·have:=hp x hx; omega
end Go.Proofs.YtkckjgkfljgjpaaGreatDoor
