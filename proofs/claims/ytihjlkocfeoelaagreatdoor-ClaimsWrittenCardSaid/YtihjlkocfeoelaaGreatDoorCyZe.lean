/- Plain: claims that are read: the program. -/
import Derived.Test.YtihjlkocfeoelaaGreatDoorCxZe
namespace Go.Proofs.YtihjlkocfeoelaaGreatDoor
set_option linter.unusedVariables false
set_option linter.unusedSimpArgs false
set_option linter.unusedSectionVars false
set_option maxRecDepth 20000
abbrev CRd:=z0g
noncomputable def pT (a b c d:Bs) (au sc:List Bs) (s:CRd):Option (z0f×Int×Int):=
 (z1r s).bind fun (r17:(Int×Int×z0g))=>if (r17.2.2.bad_ || (decide (r17.2.2.at_ < (r17.2.2.lines_.length:Int)))) then (some ((z0f.mk [] [] [] [] [] [] 0 0),r17.2.2.at_,9)) else ((z3y (z0f.mk a b c d au sc r17.1 r17.2.1)).bind fun (r20:(Int))=>if decide (r20≠0) then (some ((z0f.mk [] [] [] [] [] [] 0 0),0,r20)) else (some ((z0f.mk a b c d au sc r17.1 r17.2.1),0,0)))
noncomputable def pM (a b c d:Bs) (au:List Bs) (s:CRd):=(z0x s [109,97,121] false).bind fun (r15:((List Bs)×z0g))=>pT a b c d au r15.1 r15.2
noncomputable def pF (a b c d:Bs) (s:CRd):=(z0x s [102,111,114] false).bind fun (r13:((List Bs)×z0g))=>pM a b c d r13.1 r13.2
noncomputable def pP (a b c:Bs) (s:CRd):=(z0v s [112,97,114,101,110,116] false).bind fun (r11:(Bs×z0g))=>pF a b c r11.1 r11.2
noncomputable def pI (a b:Bs) (s:CRd):=(z0v s [105,115,115,117,101,114] true).bind fun (r9:(Bs×z0g))=>pP a b r9.1 r9.2
noncomputable def pS (a:Bs) (s:CRd):=(z0v s [115,117,98,106,101,99,116] true).bind fun (r7:(Bs×z0g))=>pI a r7.1 r7.2
noncomputable def pD (s:CRd):=(z0v s [105,100] true).bind fun (r5:(Bs×z0g))=>pS r5.1 r5.2
theorem y28 (L:List Bs) (e:Bool) (i:Int) (w:Bs) (m:Bool):z0x (z0g.mk L e i true) w m=some ([],z0g.mk L e i true):=by
 unfold z0x; rfl
theorem y7p (L:List Bs) (e:Bool) (i:Int) (w:Bs) (m:Bool):z0v (z0g.mk L e i true) w m=some ([],z0g.mk L e i true):=by
 unfold z0v
 rw [y28]; rfl
theorem x7d (a b c d:Bs) (au sc L:List Bs) (e:Bool) (i:Nat):pT a b c d au sc (z0g.mk L e (i:Int) true)=some (errC i):=by
 unfold pT z1r
 rw [y28]; rfl
theorem x7f (a b c d:Bs) (au L:List Bs) (e:Bool) (i:Nat):pM a b c d au (z0g.mk L e (i:Int) true)=some (errC i):=by
 unfold pM; rw [y28]; exact x7d a b c d au [] L e i
theorem x7h (a b c d:Bs) (L:List Bs) (e:Bool) (i:Nat):pF a b c d (z0g.mk L e (i:Int) true)=some (errC i):=by
 unfold pF; rw [y28]; exact x7f a b c d [] L e i
theorem x7e (a b c:Bs) (L:List Bs) (e:Bool) (i:Nat):pP a b c (z0g.mk L e (i:Int) true)=some (errC i):=by
 unfold pP; rw [y7p]; exact x7h a b c [] L e i
theorem x7g (a b:Bs) (L:List Bs) (e:Bool) (i:Nat):pI a b (z0g.mk L e (i:Int) true)=some (errC i):=by
 unfold pI; rw [y7p]; exact x7e a b [] L e i
theorem x75 (a:Bs) (L:List Bs) (e:Bool) (i:Nat):pS a (z0g.mk L e (i:Int) true)=some (errC i):=by
 unfold pS; rw [y7p]; exact x7g a [] L e i
section
variable {Ls:List Bs} {e:Bool} (hn:Ls.length≤10000) (hp:∀ x,x∈Ls→x.length≤10000)
include hn hp
theorem y49 (i:Nat) (h:Ls.drop i=[]) (hi:i≤Ls.length) (w:Bs) (m:Bool):z0x (z0g.mk Ls e (i:Int) false) w m=some ([],z0g.mk Ls e (i:Int) m):=by
 have:i=Ls.length:=by have:=List.drop_eq_nil_iff.1 h; omega
 unfold z0x
 rw [if_neg (by simp),if_pos (decide_eq_true (by show (i:Int)=(Ls.length:Int); omega))]
theorem y7h {i:Nat} {x:Bs} {L:List Bs} (h:Ls.drop i=x::L) (k:Nat) (hk:k < 7) (m:Bool):z0x (z0g.mk Ls e (i:Int) false) (kdL.getD k []) m =
  some (if kd (z3c x)≠k then ([],z0g.mk Ls e (i:Int) m) else if []∈z7n x∨(L=[]∧e=false) then ([],z0g.mk Ls e (i:Int) true) else (z7n x,z0g.mk Ls e ((i+1:Nat):Int) false)):=by
 have hlt:i < Ls.length:=by
  have:=congrArg List.length h
  simp at this; omega
 have hx:Ls[i]?=some x:=by
  have:=congrArg (·[0]?) h
  simpa using this
 have hL:L.length=Ls.length - i - 1:=by
  have:=congrArg List.length h
  simp at this; omega
 have hxl:=hp x (List.mem_of_getElem? hx)
 have hcut:Lib.cut x [32]=(z3c x,(if 32∈x then (Lib.cut x [32]).2.1 else []),decide (32∈x))∧spl 32 (if 32∈x then (Lib.cut x [32]).2.1 else [])=z7n x:=by
  by_cases hm:32∈x
  ·obtain ⟨p,q,rfl,h2⟩:=y1e hm
   have e1:=y5h 32 p q h2
   unfold z3c z7n
   rw [e1,splA 32 q p h2]
   simp
  ·obtain ⟨e1,e2,e3⟩:=y7m hm
   rw [x4p 32 x hm,e2,e3]
   simp [hm,spl]
 obtain ⟨c1,c2⟩:=hcut
 generalize hrest:(if 32∈x then (Lib.cut x [32]).2.1 else [])=rest at c1 c2
 have hrl:rest.length≤x.length:=by
  rw [← hrest]
  split
  ·rename_i hm
   obtain ⟨p,q,rfl,h2⟩:=y1e hm
   rw [y5h 32 p q h2]
   simp; omega
  ·simp
 have hcm:z6f x [32]=some (z3c x,rest,decide (32∈x)):=by unfold z6f; rw [if_pos (by omega),c1]
 unfold z0x
 rw [if_neg (by simp),if_neg (by simp; omega)]
 rw [x4q,hx]
 simp only [Option.bind_some,hcm]
 by_cases hkd:kd (z3c x)=k
 ·have hh:=(y9m (z3c x) k hk).1 hkd
  rw [if_neg (by simpa using hh),if_neg (not_not_intro hkd),x2h rest (by omega),c2]
  simp only [Option.bind_some]
  have hw:wr ((Ls.length:Int) - 1)=(Ls.length:Int) - 1:=z8s (by omega)
  have hw2:wr ((i:Int)+1)=((i+1:Nat):Int):=by rw [z8s (by omega)]; omega
  rw [hw,hw2]
  have hlast:L=[]↔(i:Int)=(Ls.length:Int) - 1:=by
   rw [← List.length_eq_zero_iff]; omega
  by_cases hem:[]∈z7n x
  ·have hy:((z7n x).any fun y=>decide ([]=y))=true:=by rw [List.any_eq_true]; exact ⟨[],hem,by simp⟩
   rw [hy,if_pos (by simp),if_pos (.inl hem)]
  ·have hany:((z7n x).any fun y=>decide ([]=y))=false:=by
    rw [List.any_eq_false]
    intro y hy hd
    have:([]:Bs)=y:=of_decide_eq_true hd
    rw [← this] at hy
    exact hem hy
   rw [hany]
   by_cases hl2:L=[]∧e=false
   ·rw [if_pos (by rw [hl2.2,decide_eq_true (hlast.1 hl2.1)]; simp),if_pos (.inr hl2)]
   ·rw [if_neg,if_neg (by rintro (h | h); exact hem h; exact hl2 h)]
    intro hh
    simp only [Bool.not_false,Bool.not_true,Bool.false_or,Bool.and_eq_true,Bool.not_eq_true',decide_eq_true_eq] at hh
    exact hl2 ⟨hlast.2 hh.2,hh.1⟩
 ·rw [if_pos (by simpa using fun hh=>hkd ((y9m (z3c x) k hk).2 hh)),if_pos hkd]
theorem x5d (i:Nat) (h:Ls.drop i=[]) (hi:i≤Ls.length) (w:Bs) (m:Bool):z0v (z0g.mk Ls e (i:Int) false) w m=some ([],z0g.mk Ls e (i:Int) m):=by
 unfold z0v
 rw [y49 hn hp i h hi]
 rfl
theorem x64 {i:Nat} {x:Bs} {L:List Bs} (h:Ls.drop i=x::L) (k:Nat) (hk:k < 7) (m:Bool):z0v (z0g.mk Ls e (i:Int) false) (kdL.getD k []) m =
  some (if kd (z3c x)≠k then ([],z0g.mk Ls e (i:Int) m) else if []∈z7n x∨(L=[]∧e=false)∨(z7n x).length≠1 then ([],z0g.mk Ls e (i:Int) true) else ((z7n x).getD 0 [],z0g.mk Ls e ((i+1:Nat):Int) false)):=by
 have hlt:i < Ls.length:=by
  have:=congrArg List.length h
  simp at this; omega
 have hl:=y7h (e:=e) hn hp h k hk m
 unfold z0v
 by_cases hkd:kd (z3c x)=k
 ·rw [if_neg (not_not_intro hkd)] at hl
  rw [hl,if_neg (not_not_intro hkd)]
  by_cases hc:[]∈z7n x∨(L=[]∧e=false)
  ·rw [if_pos hc,if_pos (show []∈z7n x∨(L=[]∧e=false)∨(z7n x).length≠1 from hc.elim .inl (fun h => .inr (.inl h)))]
   rfl
  ·rw [if_neg hc]
   have hne:z7n x≠[]:=by
    by_cases hm:32∈x
    ·exact (y6f hm).2
    ·rw [(y7m hm).2.2]; simp
   by_cases h1:(z7n x).length=1
   ·obtain ⟨y,hy⟩:=List.length_eq_one_iff.1 h1
    rw [if_neg (show ¬ ([]∈z7n x∨(L=[]∧e=false)∨(z7n x).length≠1) by rintro (h | h | h); exact hc (.inl h); exact hc (.inr h); exact h h1),hy]
    rfl
   ·have hlen:1 < (z7n x).length:=by
     have:=List.length_pos_iff.2 hne
     omega
    rw [if_pos (show []∈z7n x∨(L=[]∧e=false)∨(z7n x).length≠1 from .inr (.inr h1))]
    simp only [Option.bind_some]
    rw [if_pos (decide_eq_true (by omega)),z8s (by omega)]
    unfold z3j
    rw [if_pos (decide_eq_true (by simp only; omega))]
    simp only
    congr 3
    omega
 ·rw [if_pos hkd] at hl
  rw [hl,if_pos hkd]
  rfl
theorem y3w {i:Nat} {x:Bs} {L:List Bs} (h:Ls.drop i=x::L):Ls.drop (i+1)=L∧i+1≤Ls.length∧x∈Ls:=by
 have hlt:i < Ls.length:=by
  have:=congrArg List.length h
  simp at this; omega
 refine ⟨?_,hlt,?_⟩
 ·rw [← List.drop_drop,h]; rfl
 ·exact List.mem_of_mem_drop (by rw [h]; simp)
theorem y6u {x:Bs} (h:x.length≤10000):Sh (z7n x):=by
 by_cases hm:32∈x
 ·have h1:=y72 (x:=x) (by omega)
  rw [(y6f hm).1] at h1
  exact ⟨by have:=h1.1; simp at this; omega,fun y hy=>h1.2 y (by simp [hy])⟩
 ·rw [(y7m hm).2.2]; exact ⟨by simp,by simp⟩
theorem y4o {x:Bs} {k:Nat} (hk:k < 7) (h:kd (z3c x)=k) (hm:32∈x):[]∈spl 32 x↔[]∈z7n x:=by
 have hh:=(y9m (z3c x) k hk).1 h
 have hne:z3c x≠[]:=by
  rw [hh]
  have hc:k=0∨k=1∨k=2∨k=3∨k=4∨k=5∨k=6:=by omega
  rcases hc with rfl | rfl | rfl | rfl | rfl | rfl | rfl <;> decide
 rw [(y6f hm).1]
 simp [Ne.symm hne]
theorem x0j {x:Bs} (hm:32 ∉ x) (k:Nat) (c:z0f):setC k c (spl 32 x)=none:=by
 rw [(y7m hm).1]
 unfold setC
 split <;> simp
theorem T_eq (a b c d:Bs) (au sc:List Bs) (i:Nat) (hi:i≤Ls.length) (hc:ClB (z0f.mk a b c d au sc 0 0)):pT a b c d au sc (z0g.mk Ls e (i:Int) false)=some (rdC e (Ls.drop i) 6 i (z0f.mk a b c d au sc 0 0)):=by
 cases hd:Ls.drop i with
 | nil =>
  unfold pT z1r
  rw [y49 hn hp i hd hi]
  rfl
 | cons x L =>
  obtain ⟨d1,d2,d3⟩:=y3w hn hp hd
  have hxl:=hp x d3
  have hline:=y7h (e:=e) hn hp hd 6 (by omega) true
  have hline:z0x (z0g.mk Ls e (i:Int) false) [116,105,109,101] true=_:=hline
  by_cases hkd:kd (z3c x)=6
  ·rw [y7a (by omega) hkd]
   rw [if_neg (not_not_intro hkd)] at hline
   by_cases hcond:[]∈z7n x∨(L=[]∧e=false)
   ·rw [if_pos hcond] at hline
    have hr:pT a b c d au sc (z0g.mk Ls e (i:Int) false)=some (errC i):=by
     unfold pT z1r
     rw [hline]; rfl
    rw [hr]
    by_cases hm:32∈x
    ·rw [if_pos (hcond.elim (fun h => .inr ((y4o hn hp (by omega) hkd hm).2 h)) .inl)]
    ·split
     ·rfl
     ·rw [x0j hn hp hm]
   ·rw [if_neg hcond] at hline
    have hm:32∈x:=by
     by_cases hm:32∈x
     ·exact hm
     ·exact absurd (.inl (by rw [(y7m hm).2.2]; simp)) hcond
    rw [if_neg (by rintro (h | h); exact hcond (.inr h); exact hcond (.inl ((y4o hn hp (by omega) hkd hm).1 h)))]
    have hts:=y6u hn hp hxl
    rw [(y6f hm).1]
    generalize htw:z7n x=tw at *
    have hset:setC 6 (z0f.mk a b c d au sc 0 0) (z3c x::tw)=if (z3c x::tw).length=3∧okN 15 ((z3c x::tw).getD 1 [])=true∧okN 15 ((z3c x::tw).getD 2 [])=true then some (z0f.mk a b c d au sc (valB ((z3c x::tw).getD 1 [])) (valB ((z3c x::tw).getD 2 []))) else none:=rfl
    rw [hset]
    unfold pT z1r
    rw [hline]
    simp only [Option.bind_some]
    rw [if_neg (by simp)]
    by_cases h2:tw.length=2
    ·obtain ⟨y,z,rfl⟩:∃ y z,tw=[y,z]:=by
      match tw,h2 with
      | [y,z],_=>exact ⟨y,z,rfl⟩
     have k1:z6x y 15=_:=y4j y 15 (by omega) (hts.2 y (by simp))
     have k2:z6x z 15=_:=y4j z 15 (by omega) (hts.2 z (by simp))
     rw [if_pos (by simp)]
     simp only [List.getElem?_cons_zero,List.getElem?_cons_succ,Option.bind_some,k1,k2]
     by_cases ho:okN 15 y=true∧okN 15 z=true
     ·obtain ⟨o1,o2⟩:=ho
      have hs:(if [z3c x,y,z].length=3∧okN 15 ([z3c x,y,z].getD 1 [])=true∧okN 15 ([z3c x,y,z].getD 2 [])=true then some (z0f.mk a b c d au sc (valB ([z3c x,y,z].getD 1 [])) (valB ([z3c x,y,z].getD 2 []))) else none)=some (z0f.mk a b c d au sc (valB y) (valB z)):=if_pos ⟨rfl,o1,o2⟩
      rw [hs,o1,o2]
      rw [if_pos (by simp)]
      simp only [Option.bind_some,if_true,Bool.false_or]
      have hcv:ClB (z0f.mk a b c d au sc (valB y) (valB z)):=⟨hc.id,hc.subject,hc.issuer,hc.parent,hc.aud,hc.sc⟩
      cases L with
      | nil =>
       have hl:Ls.length=i+1:=by
        have:=List.drop_eq_nil_iff.1 d1
        omega
       rw [if_neg (by simp; omega),y8u _ hcv]
       simp only [Option.bind_some]
       show _=some (if (7:Nat)=7 then finC _ else errC (i+1))
       rw [if_pos rfl]
       unfold finC
       show _=some (if clF (z0f.mk a b c d au sc (valB y) (valB z))≠0 then (y31,0,clF (z0f.mk a b c d au sc (valB y) (valB z))) else (z0f.mk a b c d au sc (valB y) (valB z),0,0))
       by_cases h0:clF (z0f.mk a b c d au sc (valB y) (valB z))=0 <;> simp [h0,y31]
      | cons u L' =>
       have hl:i+1 < Ls.length:=by
        have:=congrArg List.length d1
        simp at this; omega
       rw [if_pos (decide_eq_true (by omega))]
       have hs:=x3s ⟨kd (z3c u),by have:=x07 (z3c u); omega⟩
       simp only at hs
       show _=some (rdC e (u::L') 7 (i+1) _)
       rw [rdC,if_pos (.inr (.inl hs))]
       rfl
     ·rw [if_neg (by simp only [Bool.and_eq_true]; exact ho),if_neg (fun h=>ho ⟨by simpa using h.2.1,by simpa using h.2.2⟩)]
      unfold z19
      rw [z8s (by simp only; omega)]
      show some (y31,((i+1:Nat):Int) - 1,(9:Int))=some (errC i)
      unfold errC
      congr 3
      omega
    ·rw [if_neg (by simp; omega),if_neg (fun h=>h2 (by simpa using h.1))]
     unfold z19
     rw [z8s (by simp only; omega)]
     show some (y31,((i+1:Nat):Int) - 1,(9:Int))=some (errC i)
     unfold errC
     congr 3
     omega
  ·rw [y78 (by omega) hkd]
   rw [if_pos hkd] at hline
   unfold pT z1r
   rw [hline]; rfl
theorem x65 {k:Nat} (hk:k=4∨k=5) {R:List Bs→CRd→Option (z0f×Int×Int)} {c:z0f} {mk:List Bs→z0f} (i:Nat) (hi:i≤Ls.length)
  (hbad:∀ i,R [] (z0g.mk Ls e ((i:Nat):Int) true)=some (errC i)) (hmk:mk []=c) (hset:∀ w,setC k c w=if 1 < w.length then some (mk (w.drop 1)) else none)
  (hgood:∀ w i,Sh w→i≤Ls.length→R w (z0g.mk Ls e ((i:Nat):Int) false)=some (rdC e (Ls.drop i) (k+1) i (mk w))) :
  (z0x (z0g.mk Ls e (i:Int) false) (kdL.getD k []) false).bind (fun r=>R r.1 r.2)=some (rdC e (Ls.drop i) k i c):=by
 have hsh:Sh ([]:List Bs):=⟨by simp,by simp⟩
 cases hd:Ls.drop i with
 | nil =>
  rw [y49 hn hp i hd hi]
  simp only [Option.bind_some]
  rw [hgood [] i hsh hi,hd]
  simp only [rdC]
  rw [if_neg (by omega),if_neg (by omega)]
 | cons x L =>
  obtain ⟨d1,d2,d3⟩:=y3w hn hp hd
  have hxl:=hp x d3
  rw [y7h hn hp hd k (by omega)]
  simp only [Option.bind_some]
  by_cases hkd:kd (z3c x)=k
  ·rw [y7a (by omega) hkd,if_neg (not_not_intro hkd)]
   by_cases hcond:[]∈z7n x∨(L=[]∧e=false)
   ·rw [if_pos hcond,hbad]
    by_cases hm:32∈x
    ·rw [if_pos (hcond.elim (fun h => .inr ((y4o hn hp (by omega) hkd hm).2 h)) .inl)]
    ·split
     ·rfl
     ·rw [x0j hn hp hm]
   ·rw [if_neg hcond]
    have hm:32∈x:=by
     by_cases hm:32∈x
     ·exact hm
     ·exact absurd (.inl (by rw [(y7m hm).2.2]; simp)) hcond
    rw [if_neg (by rintro (h | h); exact hcond (.inr h); exact hcond (.inl ((y4o hn hp (by omega) hkd hm).1 h)))]
    rw [hgood _ (i+1) (y6u hn hp hxl) d2,d1,hset,(y6f hm).1,if_pos (by have:=List.length_pos_iff.2 (y6f hm).2; simp; omega)]
    simp
  ·rw [if_pos hkd,hgood [] i hsh hi,hd,hmk,y77 (by omega) hkd]
theorem oneP {k:Nat} (hk:k=0∨k=1∨k=2∨k=3) {R:Bs→CRd→Option (z0f×Int×Int)} {c:z0f} {mk:Bs→z0f} (i:Nat) (hi:i≤Ls.length)
  (hbad:∀ i,R [] (z0g.mk Ls e ((i:Nat):Int) true)=some (errC i)) (hmk:mk []=c) (hset:∀ w,setC k c w=if w.length=2 then some (mk (w.getD 1 [])) else none)
  (hgood:∀ w i,w.length≤1000000→i≤Ls.length→R w (z0g.mk Ls e ((i:Nat):Int) false)=some (rdC e (Ls.drop i) (k+1) i (mk w))) :
  (z0v (z0g.mk Ls e (i:Int) false) (kdL.getD k []) (decide (k≠3))).bind (fun r=>R r.1 r.2)=some (rdC e (Ls.drop i) k i c):=by
 cases hd:Ls.drop i with
 | nil =>
  rw [x5d hn hp i hd hi]
  simp only [Option.bind_some]
  by_cases h3:k=3
  ·rw [decide_eq_false (not_not_intro h3),hgood [] i (by simp) hi,hd]
   simp only [rdC]
   rw [if_neg (by omega),if_neg (by omega)]
  ·rw [decide_eq_true h3,hbad]
   simp only [rdC]
   rw [if_neg (by omega)]
 | cons x L =>
  obtain ⟨d1,d2,d3⟩:=y3w hn hp hd
  have hxl:=hp x d3
  rw [x64 hn hp hd k (by omega)]
  simp only [Option.bind_some]
  by_cases hkd:kd (z3c x)=k
  ·rw [y7a (by omega) hkd,if_neg (not_not_intro hkd)]
   by_cases hcond:[]∈z7n x∨(L=[]∧e=false)∨(z7n x).length≠1
   ·rw [if_pos hcond,hbad]
    by_cases hm:32∈x
    ·rcases hcond with h | h | h
     ·rw [if_pos (.inr ((y4o hn hp (by omega) hkd hm).2 h))]
     ·rw [if_pos (.inl h)]
     ·split
      ·rfl
      ·rw [hset,(y6f hm).1,if_neg (by simp; omega)]
    ·split
     ·rfl
     ·rw [x0j hn hp hm]
   ·rw [if_neg hcond]
    have hm:32∈x:=by
     by_cases hm:32∈x
     ·exact hm
     ·exact absurd (.inl (by rw [(y7m hm).2.2]; simp)) hcond
    have hlen:(z7n x).length=1:=by
     by_cases h:(z7n x).length=1
     ·exact h
     ·exact absurd (.inr (.inr h)) hcond
    rw [if_neg (by rintro (h | h); exact hcond (.inr (.inl h)); exact hcond (.inl ((y4o hn hp (by omega) hkd hm).1 h)))]
    have hts:=y6u hn hp hxl
    obtain ⟨y,hy⟩:=List.length_eq_one_iff.1 hlen
    rw [hset,(y6f hm).1,hy,if_pos (by simp)]
    rw [hy] at hts
    show R y _=_
    rw [hgood y (i+1) (hts.2 y (by simp)) d2,d1]
    rfl
  ·rw [if_pos hkd]
   by_cases h3:k=3
   ·rw [decide_eq_false (not_not_intro h3),hgood [] i (by simp) hi,hd,hmk,y77 (by omega) hkd]
   ·rw [decide_eq_true h3,hbad,y78 (by omega) hkd]
theorem M_eq (a b c d:Bs) (au:List Bs) (i:Nat) (hi:i≤Ls.length) (hc:ClB (z0f.mk a b c d au [] 0 0)):pM a b c d au (z0g.mk Ls e (i:Int) false)=some (rdC e (Ls.drop i) 5 i (z0f.mk a b c d au [] 0 0)):=
 x65 hn hp (k:=5) (.inr rfl) (R:=fun w s=>pT a b c d au w s) (mk:=fun w=>z0f.mk a b c d au w 0 0) i hi (fun i=>x7d a b c d au [] Ls e i) rfl (fun w=>rfl) fun w i hw hi=>T_eq hn hp a b c d au w i hi ⟨hc.id,hc.subject,hc.issuer,hc.parent,hc.aud,hw⟩
theorem F_eq (a b c d:Bs) (i:Nat) (hi:i≤Ls.length) (hc:ClB (z0f.mk a b c d [] [] 0 0)):pF a b c d (z0g.mk Ls e (i:Int) false)=some (rdC e (Ls.drop i) 4 i (z0f.mk a b c d [] [] 0 0)):=
 x65 hn hp (k:=4) (.inl rfl) (R:=fun w s=>pM a b c d w s) (mk:=fun w=>z0f.mk a b c d w [] 0 0) i hi (fun i=>x7f a b c d [] Ls e i) rfl (fun w=>rfl) fun w i hw hi=>M_eq hn hp a b c d w i hi ⟨hc.id,hc.subject,hc.issuer,hc.parent,hw,hc.sc⟩
theorem P_eq (a b c:Bs) (i:Nat) (hi:i≤Ls.length) (hc:ClB (z0f.mk a b c [] [] [] 0 0)):pP a b c (z0g.mk Ls e (i:Int) false)=some (rdC e (Ls.drop i) 3 i (z0f.mk a b c [] [] [] 0 0)):=
 oneP hn hp (k:=3) (by omega) (R:=fun w s=>pF a b c w s) (mk:=fun w=>z0f.mk a b c w [] [] 0 0) i hi (fun i=>x7h a b c [] Ls e i) rfl (fun w=>rfl) fun w i hw hi=>F_eq hn hp a b c w i hi ⟨hc.id,hc.subject,hc.issuer,hw,hc.aud,hc.sc⟩
theorem I_eq (a b:Bs) (i:Nat) (hi:i≤Ls.length) (hc:ClB (z0f.mk a b [] [] [] [] 0 0)):pI a b (z0g.mk Ls e (i:Int) false)=some (rdC e (Ls.drop i) 2 i (z0f.mk a b [] [] [] [] 0 0)):=
 oneP hn hp (k:=2) (by omega) (R:=fun w s=>pP a b w s) (mk:=fun w=>z0f.mk a b w [] [] [] 0 0) i hi (fun i=>x7e a b [] Ls e i) rfl (fun w=>rfl) fun w i hw hi=>P_eq hn hp a b w i hi ⟨hc.id,hc.subject,hw,hc.parent,hc.aud,hc.sc⟩
theorem S_eq (a:Bs) (i:Nat) (hi:i≤Ls.length) (hc:ClB (z0f.mk a [] [] [] [] [] 0 0)):pS a (z0g.mk Ls e (i:Int) false)=some (rdC e (Ls.drop i) 1 i (z0f.mk a [] [] [] [] [] 0 0)):=
 oneP hn hp (k:=1) (by omega) (R:=fun w s=>pI a w s) (mk:=fun w=>z0f.mk a w [] [] [] [] 0 0) i hi (fun i=>x7g a [] Ls e i) rfl (fun w=>rfl) fun w i hw hi=>I_eq hn hp a w i hi ⟨hc.id,hw,hc.issuer,hc.parent,hc.aud,hc.sc⟩
theorem D_eq (i:Nat) (hi:i≤Ls.length):pD (z0g.mk Ls e (i:Int) false)=some (rdC e (Ls.drop i) 0 i (z0f.mk [] [] [] [] [] [] 0 0)):=
 oneP hn hp (k:=0) (by omega) (R:=fun w s=>pS w s) (mk:=fun w=>z0f.mk w [] [] [] [] [] 0 0) i hi (fun i=>x75 [] Ls e i) rfl (fun w=>rfl) fun w i hw hi=>S_eq hn hp w i hi ⟨hw,by simp,by simp,by simp,y73,y73⟩
end
def rdT (t:Bs):z0f×Int×Int:=if 4000 < t.length then (y31,0,2) else rdC (lnS t).2 (lnS t).1 0 0 y31
theorem y69 (t:Bs) (hl:t.length≤1000000):z6e t=some (rdT t):=by
 unfold z6e rdT
 by_cases h:4000 < t.length
 ·rw [if_pos (by simp; omega),if_pos h]; rfl
 ·rw [if_neg (by simp; omega),if_neg h,x30 t hl]
  simp only [Option.bind_some]
  show pD (z0g.mk (lnS t).1 (lnS t).2 0 false)=_
  have h1:(lnS t).1.length≤10000∧∀ x,x∈(lnS t).1→x.length≤10000:=by
   have hw:=y0r 10 t
   have hp:=z9s 10 t
   unfold lnS
   split
   ·exact ⟨by simp; omega,fun x hx=>by have:=hp x ((List.dropLast_sublist _).subset hx); omega⟩
   ·exact ⟨by simp only; omega,fun x hx=>by have:=hp x hx; omega⟩
  exact D_eq h1.1 h1.2 0 (Nat.zero_le _)
theorem y68 (t:Bs) (hl:t.length≤1000000):z5f t=some (rdT t):=by
 unfold z5f rdT
 by_cases h:4000 < t.length
 ·rw [if_pos (by simp; omega),if_pos h]; rfl
 ·rw [if_neg (by simp; omega),if_neg h]
  have hw:=y0r 10 t
  have hp:=z9s 10 t
  have hb:=splB 10 t
  have ht:=y9x (spl 10 t) (y4c 10 t) t rfl
  have hkey:t=txT (lnS t).2 (lnS t).1∧(lnS t).1.length≤5000∧(∀ x,x∈(lnS t).1→10 ∉ x∧x.length≤10000)∧((lnS t).2=false→(lnS t).1.getLast?≠some []):=by
   unfold lnS
   by_cases hlast:(spl 10 t).getLast?=some []
   ·rw [if_pos hlast] at ht ⊢
    exact ⟨ht,by simp; omega,fun x hx=>⟨hb x ((List.dropLast_sublist _).subset hx),by have:=hp x ((List.dropLast_sublist _).subset hx); omega⟩,fun h=>by cases h⟩
   ·rw [if_neg hlast] at ht ⊢
    exact ⟨ht,by simp only; omega,fun x hx=>⟨hb x hx,by have:=hp x hx; omega⟩,fun _=>hlast⟩
  obtain ⟨k1,k2,k3,k4⟩:=hkey
  have:=refC (lnS t).2 (lnS t).1 0 0 y31 (by omega) (by omega) y1s k3 k4 (by rw [← k1]; omega)
  rw [← k1] at this
  exact this
theorem x4j (e:Bool):∀ (L:List Bs) (k i:Nat) (c:z0f),ClB c→(∀ x,x∈L→x.length≤10000)→ClB (rdC e L k i c).1
 | [],k,i,c,hc,_=>by
  rw [rdC]
  split
  ·unfold finC; split
   ·exact y1s
   ·exact hc
  ·exact y1s
 | x::L,k,i,c,hc,hL=>by
  rw [rdC]
  split
  ·exact y1s
  ·split
   ·exact y1s
   ·rename_i c' hs
    exact x4j e L _ _ c' (x0k hc (y72 (by have:=hL x (by simp); omega)) hs) fun y hy=>hL y (by simp [hy])
theorem x61 (t:Bs):ClB (rdT t).1:=by
 unfold rdT
 split
 ·exact y1s
 ·refine x4j _ _ _ _ _ y1s fun x hx => ?_
  have hp:=z9s 10 t
  unfold lnS at hx
  split at hx
  ·have:=hp x ((List.dropLast_sublist _).subset hx); omega
  ·have:=hp x hx; omega
end Go.Proofs.YtihjlkocfeoelaaGreatDoor
