/- Plain: secrets, signers. -/
import Derived.Test.YtndabcepiekebaaGreatDoorCxZj
import Derived.Test.YtndabcepiekebaaGreatDoorWoZj
namespace Go.Proofs.YtndabcepiekebaaGreatDoor
set_option linter.unusedVariables false
set_option linter.unusedSimpArgs false
set_option linter.unusedSectionVars false
set_option maxRecDepth 20000
abbrev CRd:=z0k
noncomputable def pT (a b c d:Bs) (au sc:List Bs) (s:CRd):Option (z0e×Int×Int):=
 (z2p s).bind fun (r17:(Int×Int×z0k))=>if (r17.2.2.bad_ || (decide (r17.2.2.at_ < (r17.2.2.lines_.length:Int)))) then (some ((z0e.mk [] [] [] [] [] [] 0 0),r17.2.2.at_,9)) else ((z9a (z0e.mk a b c d au sc r17.1 r17.2.1)).bind fun (r20:(Int))=>if decide (r20≠0) then (some ((z0e.mk [] [] [] [] [] [] 0 0),0,r20)) else (some ((z0e.mk a b c d au sc r17.1 r17.2.1),0,0)))
noncomputable def pM (a b c d:Bs) (au:List Bs) (s:CRd):=(z1h s [109,97,121] false).bind fun (r15:((List Bs)×z0k))=>pT a b c d au r15.1 r15.2
noncomputable def pF (a b c d:Bs) (s:CRd):=(z1h s [102,111,114] false).bind fun (r13:((List Bs)×z0k))=>pM a b c d r13.1 r13.2
noncomputable def pP (a b c:Bs) (s:CRd):=(z1g s [112,97,114,101,110,116] false).bind fun (r11:(Bs×z0k))=>pF a b c r11.1 r11.2
noncomputable def pI (a b:Bs) (s:CRd):=(z1g s [105,115,115,117,101,114] true).bind fun (r9:(Bs×z0k))=>pP a b r9.1 r9.2
noncomputable def pS (a:Bs) (s:CRd):=(z1g s [115,117,98,106,101,99,116] true).bind fun (r7:(Bs×z0k))=>pI a r7.1 r7.2
noncomputable def pD (s:CRd):=(z1g s [105,100] true).bind fun (r5:(Bs×z0k))=>pS r5.1 r5.2
theorem x1r (L:List Bs) (e:Bool) (i:Int) (w:Bs) (m:Bool):z1h (z0k.mk L e i true) w m=some ([],z0k.mk L e i true):=by
 unfold z1h; rfl
theorem x77 (L:List Bs) (e:Bool) (i:Int) (w:Bs) (m:Bool):z1g (z0k.mk L e i true) w m=some ([],z0k.mk L e i true):=by
 unfold z1g
 rw [x1r]; rfl
theorem w9r (a b c d:Bs) (au sc L:List Bs) (e:Bool) (i:Nat):pT a b c d au sc (z0k.mk L e (i:Int) true)=some (errC i):=by
 unfold pT z2p
 rw [x1r]; rfl
theorem w9t (a b c d:Bs) (au L:List Bs) (e:Bool) (i:Nat):pM a b c d au (z0k.mk L e (i:Int) true)=some (errC i):=by
 unfold pM; rw [x1r]; exact w9r a b c d au [] L e i
theorem w9v (a b c d:Bs) (L:List Bs) (e:Bool) (i:Nat):pF a b c d (z0k.mk L e (i:Int) true)=some (errC i):=by
 unfold pF; rw [x1r]; exact w9t a b c d [] L e i
theorem w9s (a b c:Bs) (L:List Bs) (e:Bool) (i:Nat):pP a b c (z0k.mk L e (i:Int) true)=some (errC i):=by
 unfold pP; rw [x77]; exact w9v a b c [] L e i
theorem w9u (a b:Bs) (L:List Bs) (e:Bool) (i:Nat):pI a b (z0k.mk L e (i:Int) true)=some (errC i):=by
 unfold pI; rw [x77]; exact w9s a b [] L e i
theorem v0q (a:Bs) (L:List Bs) (e:Bool) (i:Nat):pS a (z0k.mk L e (i:Int) true)=some (errC i):=by
 unfold pS; rw [x77]; exact w9u a [] L e i
section
variable {Ls:List Bs} {e:Bool} (hn:Ls.length≤10000) (hp:∀ x,x∈Ls→x.length≤10000)
include hn hp
theorem x5b (i:Nat) (h:Ls.drop i=[]) (hi:i≤Ls.length) (w:Bs) (m:Bool):z1h (z0k.mk Ls e (i:Int) false) w m=some ([],z0k.mk Ls e (i:Int) m):=by
 have:i=Ls.length:=by have:=List.drop_eq_nil_iff.1 h; omega
 unfold z1h
 rw [if_neg (by simp),if_pos (decide_eq_true (by show (i:Int)=(Ls.length:Int); omega))]
theorem x7y {i:Nat} {x:Bs} {L:List Bs} (h:Ls.drop i=x::L) (k:Nat) (hk:k < 7) (m:Bool):z1h (z0k.mk Ls e (i:Int) false) (kdL.getD k []) m =
  some (if kd (z5n x)≠k then ([],z0k.mk Ls e (i:Int) m) else if []∈y3o x∨(L=[]∧e=false) then ([],z0k.mk Ls e (i:Int) true) else (y3o x,z0k.mk Ls e ((i+1:Nat):Int) false)):=by
 have hlt:i < Ls.length:=by
  have:=congrArg List.length h
  simp at this; omega
 have hx:Ls[i]?=some x:=by
  have:=congrArg (·[0]?) h
  simpa using this
 have hL:L.length=Ls.length - i - 1:=by
  have:=congrArg List.length h
  simp at this; omega
 have hxl:=hp x (List.mem_of_getElem? hx)
 have hcut:Lib.cut x [32]=(z5n x,(if 32∈x then (Lib.cut x [32]).2.1 else []),decide (32∈x))∧spl 32 (if 32∈x then (Lib.cut x [32]).2.1 else [])=y3o x:=by
  by_cases hm:32∈x
  ·obtain ⟨p,q,rfl,h2⟩:=y8l hm
   have e1:=x5k 32 p q h2
   unfold z5n y3o
   rw [e1,splA 32 q p h2]
   simp
  ·obtain ⟨e1,e2,e3⟩:=x74 hm
   rw [w6d 32 x hm,e2,e3]
   simp [hm,spl]
 obtain ⟨c1,c2⟩:=hcut
 generalize hrest:(if 32∈x then (Lib.cut x [32]).2.1 else [])=rest at c1 c2
 have hrl:rest.length≤x.length:=by
  rw [← hrest]
  split
  ·rename_i hm
   obtain ⟨p,q,rfl,h2⟩:=y8l hm
   rw [x5k 32 p q h2]
   simp; omega
  ·simp
 have hcm:y1l x [32]=some (z5n x,rest,decide (32∈x)):=by unfold y1l; rw [if_pos (by omega),c1]
 unfold z1h
 rw [if_neg (by simp),if_neg (by simp; omega)]
 rw [x0a,hx]
 simp only [Option.bind_some,hcm]
 by_cases hkd:kd (z5n x)=k
 ·have hh:=(w0d (z5n x) k hk).1 hkd
  rw [if_neg (by simpa using hh),if_neg (not_not_intro hkd),w3x rest (by omega),c2]
  simp only [Option.bind_some]
  have hw:wr ((Ls.length:Int) - 1)=(Ls.length:Int) - 1:=y3a (by omega)
  have hw2:wr ((i:Int)+1)=((i+1:Nat):Int):=by rw [y3a (by omega)]; omega
  rw [hw,hw2]
  have hlast:L=[]↔(i:Int)=(Ls.length:Int) - 1:=by
   rw [← List.length_eq_zero_iff]; omega
  by_cases hem:[]∈y3o x
  ·have hy:((y3o x).any fun y=>decide ([]=y))=true:=by rw [List.any_eq_true]; exact ⟨[],hem,by simp⟩
   rw [hy,if_pos (by simp),if_pos (.inl hem)]
  ·have hany:((y3o x).any fun y=>decide ([]=y))=false:=by
    rw [List.any_eq_false]
    intro y hy hd
    have:([]:Bs)=y:=of_decide_eq_true hd
    rw [← this] at hy
    exact hem hy
   rw [hany]
   by_cases hl2:L=[]∧e=false
   ·rw [if_pos (by rw [hl2.2,decide_eq_true (hlast.1 hl2.1)]; simp),if_pos (.inr hl2)]
   ·rw [if_neg,if_neg (by rintro (h | h); exact hem h; exact hl2 h)]
    intro hh
    simp only [Bool.not_false,Bool.not_true,Bool.false_or,Bool.and_eq_true,Bool.not_eq_true',decide_eq_true_eq] at hh
    exact hl2 ⟨hlast.2 hh.2,hh.1⟩
 ·rw [if_pos (by simpa using fun hh=>hkd ((w0d (z5n x) k hk).2 hh)),if_pos hkd]
theorem w64 (i:Nat) (h:Ls.drop i=[]) (hi:i≤Ls.length) (w:Bs) (m:Bool):z1g (z0k.mk Ls e (i:Int) false) w m=some ([],z0k.mk Ls e (i:Int) m):=by
 unfold z1g
 rw [x5b hn hp i h hi]
 rfl
theorem w87 {i:Nat} {x:Bs} {L:List Bs} (h:Ls.drop i=x::L) (k:Nat) (hk:k < 7) (m:Bool):z1g (z0k.mk Ls e (i:Int) false) (kdL.getD k []) m =
  some (if kd (z5n x)≠k then ([],z0k.mk Ls e (i:Int) m) else if []∈y3o x∨(L=[]∧e=false)∨(y3o x).length≠1 then ([],z0k.mk Ls e (i:Int) true) else ((y3o x).getD 0 [],z0k.mk Ls e ((i+1:Nat):Int) false)):=by
 have hlt:i < Ls.length:=by
  have:=congrArg List.length h
  simp at this; omega
 have hl:=x7y (e:=e) hn hp h k hk m
 unfold z1g
 by_cases hkd:kd (z5n x)=k
 ·rw [if_neg (not_not_intro hkd)] at hl
  rw [hl,if_neg (not_not_intro hkd)]
  by_cases hc:[]∈y3o x∨(L=[]∧e=false)
  ·rw [if_pos hc,if_pos (show []∈y3o x∨(L=[]∧e=false)∨(y3o x).length≠1 from hc.elim .inl (fun h => .inr (.inl h)))]
   rfl
  ·rw [if_neg hc]
   have hne:y3o x≠[]:=by
    by_cases hm:32∈x
    ·exact (x6o hm).2
    ·rw [(x74 hm).2.2]; simp
   by_cases h1:(y3o x).length=1
   ·obtain ⟨y,hy⟩:=List.length_eq_one_iff.1 h1
    rw [if_neg (show ¬ ([]∈y3o x∨(L=[]∧e=false)∨(y3o x).length≠1) by rintro (h | h | h); exact hc (.inl h); exact hc (.inr h); exact h h1),hy]
    rfl
   ·have hlen:1 < (y3o x).length:=by
     have:=List.length_pos_iff.2 hne
     omega
    rw [if_pos (show []∈y3o x∨(L=[]∧e=false)∨(y3o x).length≠1 from .inr (.inr h1))]
    simp only [Option.bind_some]
    rw [if_pos (decide_eq_true (by omega)),y3a (by omega)]
    unfold z5y
    rw [if_pos (decide_eq_true (by simp only; omega))]
    simp only
    congr 3
    omega
 ·rw [if_pos hkd] at hl
  rw [hl,if_pos hkd]
  rfl
theorem x22 {i:Nat} {x:Bs} {L:List Bs} (h:Ls.drop i=x::L):Ls.drop (i+1)=L∧i+1≤Ls.length∧x∈Ls:=by
 have hlt:i < Ls.length:=by
  have:=congrArg List.length h
  simp at this; omega
 refine ⟨?_,hlt,?_⟩
 ·rw [← List.drop_drop,h]; rfl
 ·exact List.mem_of_mem_drop (by rw [h]; simp)
theorem x69 {x:Bs} (h:x.length≤10000):Sh (y3o x):=by
 by_cases hm:32∈x
 ·have h1:=x8o (x:=x) (by omega)
  rw [(x6o hm).1] at h1
  exact ⟨by have:=h1.1; simp at this; omega,fun y hy=>h1.2 y (by simp [hy])⟩
 ·rw [(x74 hm).2.2]; exact ⟨by simp,by simp⟩
theorem x4e {x:Bs} {k:Nat} (hk:k < 7) (h:kd (z5n x)=k) (hm:32∈x):[]∈spl 32 x↔[]∈y3o x:=by
 have hh:=(w0d (z5n x) k hk).1 h
 have hne:z5n x≠[]:=by
  rw [hh]
  have hc:k=0∨k=1∨k=2∨k=3∨k=4∨k=5∨k=6:=by omega
  rcases hc with rfl | rfl | rfl | rfl | rfl | rfl | rfl <;> decide
 rw [(x6o hm).1]
 simp [Ne.symm hne]
theorem w1g {x:Bs} (hm:32 ∉ x) (k:Nat) (c:z0e):setC k c (spl 32 x)=none:=by
 rw [(x74 hm).1]
 unfold setC
 split <;> simp
theorem T_eq (a b c d:Bs) (au sc:List Bs) (i:Nat) (hi:i≤Ls.length) (hc:ClB (z0e.mk a b c d au sc 0 0)):pT a b c d au sc (z0k.mk Ls e (i:Int) false)=some (rdC e (Ls.drop i) 6 i (z0e.mk a b c d au sc 0 0)):=by
 cases hd:Ls.drop i with
 | nil =>
  unfold pT z2p
  rw [x5b hn hp i hd hi]
  rfl
 | cons x L =>
  obtain ⟨d1,d2,d3⟩:=x22 hn hp hd
  have hxl:=hp x d3
  have hline:=x7y (e:=e) hn hp hd 6 (by omega) true
  have hline:z1h (z0k.mk Ls e (i:Int) false) [116,105,109,101] true=_:=hline
  by_cases hkd:kd (z5n x)=6
  ·rw [x7t (by omega) hkd]
   rw [if_neg (not_not_intro hkd)] at hline
   by_cases hcond:[]∈y3o x∨(L=[]∧e=false)
   ·rw [if_pos hcond] at hline
    have hr:pT a b c d au sc (z0k.mk Ls e (i:Int) false)=some (errC i):=by
     unfold pT z2p
     rw [hline]; rfl
    rw [hr]
    by_cases hm:32∈x
    ·rw [if_pos (hcond.elim (fun h => .inr ((x4e hn hp (by omega) hkd hm).2 h)) .inl)]
    ·split
     ·rfl
     ·rw [w1g hn hp hm]
   ·rw [if_neg hcond] at hline
    have hm:32∈x:=by
     by_cases hm:32∈x
     ·exact hm
     ·exact absurd (.inl (by rw [(x74 hm).2.2]; simp)) hcond
    rw [if_neg (by rintro (h | h); exact hcond (.inr h); exact hcond (.inl ((x4e hn hp (by omega) hkd hm).1 h)))]
    have hts:=x69 hn hp hxl
    rw [(x6o hm).1]
    generalize htw:y3o x=tw at *
    have hset:setC 6 (z0e.mk a b c d au sc 0 0) (z5n x::tw)=if (z5n x::tw).length=3∧okN 15 ((z5n x::tw).getD 1 [])=true∧okN 15 ((z5n x::tw).getD 2 [])=true then some (z0e.mk a b c d au sc (valB ((z5n x::tw).getD 1 [])) (valB ((z5n x::tw).getD 2 []))) else none:=rfl
    rw [hset]
    unfold pT z2p
    rw [hline]
    simp only [Option.bind_some]
    rw [if_neg (by simp)]
    by_cases h2:tw.length=2
    ·obtain ⟨y,z,rfl⟩:∃ y z,tw=[y,z]:=by
      match tw,h2 with
      | [y,z],_=>exact ⟨y,z,rfl⟩
     have k1:y2l y 15=_:=x4a y 15 (by omega) (hts.2 y (by simp))
     have k2:y2l z 15=_:=x4a z 15 (by omega) (hts.2 z (by simp))
     rw [if_pos (by simp)]
     simp only [List.getElem?_cons_zero,List.getElem?_cons_succ,Option.bind_some,k1,k2]
     by_cases ho:okN 15 y=true∧okN 15 z=true
     ·obtain ⟨o1,o2⟩:=ho
      have hs:(if [z5n x,y,z].length=3∧okN 15 ([z5n x,y,z].getD 1 [])=true∧okN 15 ([z5n x,y,z].getD 2 [])=true then some (z0e.mk a b c d au sc (valB ([z5n x,y,z].getD 1 [])) (valB ([z5n x,y,z].getD 2 []))) else none)=some (z0e.mk a b c d au sc (valB y) (valB z)):=if_pos ⟨rfl,o1,o2⟩
      rw [hs,o1,o2]
      rw [if_pos (by simp)]
      simp only [Option.bind_some,if_true,Bool.false_or]
      have hcv:ClB (z0e.mk a b c d au sc (valB y) (valB z)):=⟨hc.id,hc.subject,hc.issuer,hc.parent,hc.aud,hc.sc⟩
      cases L with
      | nil =>
       have hl:Ls.length=i+1:=by
        have:=List.drop_eq_nil_iff.1 d1
        omega
       rw [if_neg (by simp; omega),w9q _ hcv]
       simp only [Option.bind_some]
       show _=some (if (7:Nat)=7 then finC _ else errC (i+1))
       rw [if_pos rfl]
       unfold finC
       show _=some (if clF (z0e.mk a b c d au sc (valB y) (valB z))≠0 then (y66,0,clF (z0e.mk a b c d au sc (valB y) (valB z))) else (z0e.mk a b c d au sc (valB y) (valB z),0,0))
       by_cases h0:clF (z0e.mk a b c d au sc (valB y) (valB z))=0 <;> simp [h0,y66]
      | cons u L' =>
       have hl:i+1 < Ls.length:=by
        have:=congrArg List.length d1
        simp at this; omega
       rw [if_pos (decide_eq_true (by omega))]
       have hs:=w5b ⟨kd (z5n u),by have:=w2e (z5n u); omega⟩
       simp only at hs
       show _=some (rdC e (u::L') 7 (i+1) _)
       rw [rdC,if_pos (.inr (.inl hs))]
       rfl
     ·rw [if_neg (by simp only [Bool.and_eq_true]; exact ho),if_neg (fun h=>ho ⟨by simpa using h.2.1,by simpa using h.2.2⟩)]
      unfold z3v
      rw [y3a (by simp only; omega)]
      show some (y66,((i+1:Nat):Int) - 1,(9:Int))=some (errC i)
      unfold errC
      congr 3
      omega
    ·rw [if_neg (by simp; omega),if_neg (fun h=>h2 (by simpa using h.1))]
     unfold z3v
     rw [y3a (by simp only; omega)]
     show some (y66,((i+1:Nat):Int) - 1,(9:Int))=some (errC i)
     unfold errC
     congr 3
     omega
  ·rw [x8x (by omega) hkd]
   rw [if_pos hkd] at hline
   unfold pT z2p
   rw [hline]; rfl
theorem w9a {k:Nat} (hk:k=4∨k=5) {R:List Bs→CRd→Option (z0e×Int×Int)} {c:z0e} {mk:List Bs→z0e} (i:Nat) (hi:i≤Ls.length)
  (hbad:∀ i,R [] (z0k.mk Ls e ((i:Nat):Int) true)=some (errC i)) (hmk:mk []=c) (hset:∀ w,setC k c w=if 1 < w.length then some (mk (w.drop 1)) else none)
  (hgood:∀ w i,Sh w→i≤Ls.length→R w (z0k.mk Ls e ((i:Nat):Int) false)=some (rdC e (Ls.drop i) (k+1) i (mk w))) :
  (z1h (z0k.mk Ls e (i:Int) false) (kdL.getD k []) false).bind (fun r=>R r.1 r.2)=some (rdC e (Ls.drop i) k i c):=by
 have hsh:Sh ([]:List Bs):=⟨by simp,by simp⟩
 cases hd:Ls.drop i with
 | nil =>
  rw [x5b hn hp i hd hi]
  simp only [Option.bind_some]
  rw [hgood [] i hsh hi,hd]
  simp only [rdC]
  rw [if_neg (by omega),if_neg (by omega)]
 | cons x L =>
  obtain ⟨d1,d2,d3⟩:=x22 hn hp hd
  have hxl:=hp x d3
  rw [x7y hn hp hd k (by omega)]
  simp only [Option.bind_some]
  by_cases hkd:kd (z5n x)=k
  ·rw [x7t (by omega) hkd,if_neg (not_not_intro hkd)]
   by_cases hcond:[]∈y3o x∨(L=[]∧e=false)
   ·rw [if_pos hcond,hbad]
    by_cases hm:32∈x
    ·rw [if_pos (hcond.elim (fun h => .inr ((x4e hn hp (by omega) hkd hm).2 h)) .inl)]
    ·split
     ·rfl
     ·rw [w1g hn hp hm]
   ·rw [if_neg hcond]
    have hm:32∈x:=by
     by_cases hm:32∈x
     ·exact hm
     ·exact absurd (.inl (by rw [(x74 hm).2.2]; simp)) hcond
    rw [if_neg (by rintro (h | h); exact hcond (.inr h); exact hcond (.inl ((x4e hn hp (by omega) hkd hm).1 h)))]
    rw [hgood _ (i+1) (x69 hn hp hxl) d2,d1,hset,(x6o hm).1,if_pos (by have:=List.length_pos_iff.2 (x6o hm).2; simp; omega)]
    simp
  ·rw [if_pos hkd,hgood [] i hsh hi,hd,hmk,x8w (by omega) hkd]
theorem oneP {k:Nat} (hk:k=0∨k=1∨k=2∨k=3) {R:Bs→CRd→Option (z0e×Int×Int)} {c:z0e} {mk:Bs→z0e} (i:Nat) (hi:i≤Ls.length)
  (hbad:∀ i,R [] (z0k.mk Ls e ((i:Nat):Int) true)=some (errC i)) (hmk:mk []=c) (hset:∀ w,setC k c w=if w.length=2 then some (mk (w.getD 1 [])) else none)
  (hgood:∀ w i,w.length≤1000000→i≤Ls.length→R w (z0k.mk Ls e ((i:Nat):Int) false)=some (rdC e (Ls.drop i) (k+1) i (mk w))) :
  (z1g (z0k.mk Ls e (i:Int) false) (kdL.getD k []) (decide (k≠3))).bind (fun r=>R r.1 r.2)=some (rdC e (Ls.drop i) k i c):=by
 cases hd:Ls.drop i with
 | nil =>
  rw [w64 hn hp i hd hi]
  simp only [Option.bind_some]
  by_cases h3:k=3
  ·rw [decide_eq_false (not_not_intro h3),hgood [] i (by simp) hi,hd]
   simp only [rdC]
   rw [if_neg (by omega),if_neg (by omega)]
  ·rw [decide_eq_true h3,hbad]
   simp only [rdC]
   rw [if_neg (by omega)]
 | cons x L =>
  obtain ⟨d1,d2,d3⟩:=x22 hn hp hd
  have hxl:=hp x d3
  rw [w87 hn hp hd k (by omega)]
  simp only [Option.bind_some]
  by_cases hkd:kd (z5n x)=k
  ·rw [x7t (by omega) hkd,if_neg (not_not_intro hkd)]
   by_cases hcond:[]∈y3o x∨(L=[]∧e=false)∨(y3o x).length≠1
   ·rw [if_pos hcond,hbad]
    by_cases hm:32∈x
    ·rcases hcond with h | h | h
     ·rw [if_pos (.inr ((x4e hn hp (by omega) hkd hm).2 h))]
     ·rw [if_pos (.inl h)]
     ·split
      ·rfl
      ·rw [hset,(x6o hm).1,if_neg (by simp; omega)]
    ·split
     ·rfl
     ·rw [w1g hn hp hm]
   ·rw [if_neg hcond]
    have hm:32∈x:=by
     by_cases hm:32∈x
     ·exact hm
     ·exact absurd (.inl (by rw [(x74 hm).2.2]; simp)) hcond
    have hlen:(y3o x).length=1:=by
     by_cases h:(y3o x).length=1
     ·exact h
     ·exact absurd (.inr (.inr h)) hcond
    rw [if_neg (by rintro (h | h); exact hcond (.inr (.inl h)); exact hcond (.inl ((x4e hn hp (by omega) hkd hm).1 h)))]
    have hts:=x69 hn hp hxl
    obtain ⟨y,hy⟩:=List.length_eq_one_iff.1 hlen
    rw [hset,(x6o hm).1,hy,if_pos (by simp)]
    rw [hy] at hts
    show R y _=_
    rw [hgood y (i+1) (hts.2 y (by simp)) d2,d1]
    rfl
  ·rw [if_pos hkd]
   by_cases h3:k=3
   ·rw [decide_eq_false (not_not_intro h3),hgood [] i (by simp) hi,hd,hmk,x8w (by omega) hkd]
   ·rw [decide_eq_true h3,hbad,x8x (by omega) hkd]
theorem M_eq (a b c d:Bs) (au:List Bs) (i:Nat) (hi:i≤Ls.length) (hc:ClB (z0e.mk a b c d au [] 0 0)):pM a b c d au (z0k.mk Ls e (i:Int) false)=some (rdC e (Ls.drop i) 5 i (z0e.mk a b c d au [] 0 0)):=
 w9a hn hp (k:=5) (.inr rfl) (R:=fun w s=>pT a b c d au w s) (mk:=fun w=>z0e.mk a b c d au w 0 0) i hi (fun i=>w9r a b c d au [] Ls e i) rfl (fun w=>rfl) fun w i hw hi=>T_eq hn hp a b c d au w i hi ⟨hc.id,hc.subject,hc.issuer,hc.parent,hc.aud,hw⟩
theorem F_eq (a b c d:Bs) (i:Nat) (hi:i≤Ls.length) (hc:ClB (z0e.mk a b c d [] [] 0 0)):pF a b c d (z0k.mk Ls e (i:Int) false)=some (rdC e (Ls.drop i) 4 i (z0e.mk a b c d [] [] 0 0)):=
 w9a hn hp (k:=4) (.inl rfl) (R:=fun w s=>pM a b c d w s) (mk:=fun w=>z0e.mk a b c d w [] 0 0) i hi (fun i=>w9t a b c d [] Ls e i) rfl (fun w=>rfl) fun w i hw hi=>M_eq hn hp a b c d w i hi ⟨hc.id,hc.subject,hc.issuer,hc.parent,hw,hc.sc⟩
theorem P_eq (a b c:Bs) (i:Nat) (hi:i≤Ls.length) (hc:ClB (z0e.mk a b c [] [] [] 0 0)):pP a b c (z0k.mk Ls e (i:Int) false)=some (rdC e (Ls.drop i) 3 i (z0e.mk a b c [] [] [] 0 0)):=
 oneP hn hp (k:=3) (by omega) (R:=fun w s=>pF a b c w s) (mk:=fun w=>z0e.mk a b c w [] [] 0 0) i hi (fun i=>w9v a b c [] Ls e i) rfl (fun w=>rfl) fun w i hw hi=>F_eq hn hp a b c w i hi ⟨hc.id,hc.subject,hc.issuer,hw,hc.aud,hc.sc⟩
theorem I_eq (a b:Bs) (i:Nat) (hi:i≤Ls.length) (hc:ClB (z0e.mk a b [] [] [] [] 0 0)):pI a b (z0k.mk Ls e (i:Int) false)=some (rdC e (Ls.drop i) 2 i (z0e.mk a b [] [] [] [] 0 0)):=
 oneP hn hp (k:=2) (by omega) (R:=fun w s=>pP a b w s) (mk:=fun w=>z0e.mk a b w [] [] [] 0 0) i hi (fun i=>w9s a b [] Ls e i) rfl (fun w=>rfl) fun w i hw hi=>P_eq hn hp a b w i hi ⟨hc.id,hc.subject,hw,hc.parent,hc.aud,hc.sc⟩
theorem S_eq (a:Bs) (i:Nat) (hi:i≤Ls.length) (hc:ClB (z0e.mk a [] [] [] [] [] 0 0)):pS a (z0k.mk Ls e (i:Int) false)=some (rdC e (Ls.drop i) 1 i (z0e.mk a [] [] [] [] [] 0 0)):=
 oneP hn hp (k:=1) (by omega) (R:=fun w s=>pI a w s) (mk:=fun w=>z0e.mk a w [] [] [] [] 0 0) i hi (fun i=>w9u a [] Ls e i) rfl (fun w=>rfl) fun w i hw hi=>I_eq hn hp a w i hi ⟨hc.id,hw,hc.issuer,hc.parent,hc.aud,hc.sc⟩
theorem D_eq (i:Nat) (hi:i≤Ls.length):pD (z0k.mk Ls e (i:Int) false)=some (rdC e (Ls.drop i) 0 i (z0e.mk [] [] [] [] [] [] 0 0)):=
 oneP hn hp (k:=0) (by omega) (R:=fun w s=>pS w s) (mk:=fun w=>z0e.mk w [] [] [] [] [] 0 0) i hi (fun i=>v0q [] Ls e i) rfl (fun w=>rfl) fun w i hw hi=>S_eq hn hp w i hi ⟨hw,by simp,by simp,by simp,x8q,x8q⟩
end
def rdT (t:Bs):z0e×Int×Int:=if 4000 < t.length then (y66,0,2) else rdC (lnS t).2 (lnS t).1 0 0 y66
theorem x7s (t:Bs) (hl:t.length≤1000000):y1k t=some (rdT t):=by
 unfold y1k rdT
 by_cases h:4000 < t.length
 ·rw [if_pos (by simp; omega),if_pos h]; rfl
 ·rw [if_neg (by simp; omega),if_neg h,w5g t hl]
  simp only [Option.bind_some]
  show pD (z0k.mk (lnS t).1 (lnS t).2 0 false)=_
  have h1:(lnS t).1.length≤10000∧∀ x,x∈(lnS t).1→x.length≤10000:=by
   have hw:=y6t 10 t
   have hp:=y5e 10 t
   unfold lnS
   split
   ·exact ⟨by simp; omega,fun x hx=>by have:=hp x ((List.dropLast_sublist _).subset hx); omega⟩
   ·exact ⟨by simp only; omega,fun x hx=>by have:=hp x hx; omega⟩
  exact D_eq h1.1 h1.2 0 (Nat.zero_le _)
theorem x7r (t:Bs) (hl:t.length≤1000000):z9u t=some (rdT t):=by
 unfold z9u rdT
 by_cases h:4000 < t.length
 ·rw [if_pos (by simp; omega),if_pos h]; rfl
 ·rw [if_neg (by simp; omega),if_neg h]
  have hw:=y6t 10 t
  have hp:=y5e 10 t
  have hb:=splB 10 t
  have ht:=w0v (spl 10 t) (x3v 10 t) t rfl
  have hkey:t=txT (lnS t).2 (lnS t).1∧(lnS t).1.length≤5000∧(∀ x,x∈(lnS t).1→10 ∉ x∧x.length≤10000)∧((lnS t).2=false→(lnS t).1.getLast?≠some []):=by
   unfold lnS
   by_cases hlast:(spl 10 t).getLast?=some []
   ·rw [if_pos hlast] at ht ⊢
    exact ⟨ht,by simp; omega,fun x hx=>⟨hb x ((List.dropLast_sublist _).subset hx),by have:=hp x ((List.dropLast_sublist _).subset hx); omega⟩,fun h=>by cases h⟩
   ·rw [if_neg hlast] at ht ⊢
    exact ⟨ht,by simp only; omega,fun x hx=>⟨hb x hx,by have:=hp x hx; omega⟩,fun _=>hlast⟩
  obtain ⟨k1,k2,k3,k4⟩:=hkey
  have:=refC (lnS t).2 (lnS t).1 0 0 y66 (by omega) (by omega) y2h k3 k4 (by rw [← k1]; omega)
  rw [← k1] at this
  exact this
theorem w58 (e:Bool):∀ (L:List Bs) (k i:Nat) (c:z0e),ClB c→(∀ x,x∈L→x.length≤10000)→ClB (rdC e L k i c).1
 | [],k,i,c,hc,_=>by
  rw [rdC]
  split
  ·unfold finC; split
   ·exact y2h
   ·exact hc
  ·exact y2h
 | x::L,k,i,c,hc,hL=>by
  rw [rdC]
  split
  ·exact y2h
  ·split
   ·exact y2h
   ·rename_i c' hs
    exact w58 e L _ _ c' (w1h hc (x8o (by have:=hL x (by simp); omega)) hs) fun y hy=>hL y (by simp [hy])
theorem w82 (t:Bs):ClB (rdT t).1:=by
 unfold rdT
 split
 ·exact y2h
 ·refine w58 _ _ _ _ _ y2h fun x hx => ?_
  have hp:=y5e 10 t
  unfold lnS at hx
  split at hx
  ·have:=hp x ((List.dropLast_sublist _).subset hx); omega
  ·have:=hp x hx; omega
end Go.Proofs.YtndabcepiekebaaGreatDoor
namespace Go.Proofs.YtndabcepiekebaaGreatDoor
set_option linter.unusedVariables false
set_option maxRecDepth 20000
theorem w7v (c:UInt8):(encL (IntKind.wrap .i32 (c.toNat:Int))).length≤4:=by
 have:=y9o (fun c=>decide ((encL (IntKind.wrap .i32 (c.toNat:Int))).length≤4)) (by decide +kernel) c
 exact of_decide_eq_true this
theorem x3s (l:Bs) (a b:Int) (h:0≤a∧a≤b∧b≤(l.length:Int)):Ok (sub? l a b) fun r=>r.length≤l.length:=by
 unfold sub?
 rw [if_pos h]
 exact z1v (by simp; omega)
theorem x4g {k:Int} {s:z0d} (h:SB k s) (hk:k≤1000000) (t v:Bs) (ht:t.length≤100000) (hv:v.length≤100000) :
  Ok (z50 s t v) fun r=>r.1.length≤2 * t.length+v.length+4∧SB (k+3) r.2:=by
 unfold z50
 refine y4d (fun _=>z1v ⟨by simp only; omega,h.mono (by omega)⟩) (fun h0 => ?_)
 simp only [Bool.or_eq_true,decide_eq_true_eq,not_or] at h0
 have ht0:0 < t.length:=by cases hq:t with | nil=>exact absurd hq h0.1 | cons _ _=>simp
 have hv0:0 < v.length:=by cases hq:v with | nil=>exact absurd hq h0.2 | cons _ _=>simp
 refine z08 (y6u h (by omega) _ (by omega)) fun r5 h5=>z08 (y6u h5.2 (by omega) _ (by omega)) fun r7 h7 => ?_
 have b5:=h5.1.2.1 (by omega)
 have b7:=h7.1.2.1 (by omega)
 have c5:=h5.1.1
 have c7:=h7.1.1
 have hat:Ok (at? v r7.1) fun _=>True:=by
  unfold at?
  rw [if_pos c7,List.getElem?_eq_getElem (by omega)]
  exact ⟨_,rfl,trivial⟩
 refine z08 hat fun x9 _=>z08 (y6u h7.2 (by omega) 3 (by omega)) fun r11 h11 => ?_
 have he:=w7v x9
 have hw:wr (r5.1+1)=r5.1+1:=y3a (by omega)
 have hS:SB (k+3) r11.2:=h11.2.mono (by omega)
 rw [hw]
 refine y4d (fun _ => ?_) (fun _=>y4d (fun _ => ?_) (fun _ => ?_))
 ·refine z08 (x3s t _ _ ⟨by omega,by omega,by omega⟩) fun l14 h14=>ok_g (by omega) (z08 (x3s t _ _ ⟨by omega,by omega,by omega⟩) fun l17 h17=>ok_g (by simp; omega) (z1v ⟨by simp; omega,hS⟩))
 ·refine z08 (x3s t _ _ ⟨by omega,by omega,by omega⟩) fun l14 h14=>ok_g (by omega) (z08 (x3s t _ _ ⟨by omega,by omega,by omega⟩) fun l17 h17=>ok_g (by simp; omega) (z1v ⟨by simp; omega,hS⟩))
 ·refine z08 (x3s t _ _ ⟨by omega,by omega,by omega⟩) fun l14 h14=>z08 (x3s t _ _ ⟨by omega,by omega,by omega⟩) fun l17 h17=>ok_g (by omega) (z1v ⟨by simp; omega,hS⟩)
end Go.Proofs.YtndabcepiekebaaGreatDoor
namespace Go.Proofs.YtndabcepiekebaaGreatDoor
set_option linter.unusedVariables false
set_option linter.unusedSimpArgs false
set_option linter.unusedSectionVars false
set_option maxRecDepth 20000
structure CSm (c:z0e):Prop where
 id:c.Id.length≤10
 subject:c.Subject.length≤10
 issuer:c.Issuer.length≤10
 parent:c.Parent.length≤10
 aud:c.Audience.length≤5∧∀ x,x∈c.Audience→x.length≤1000
 sc:c.Scopes.length≤5∧∀ x,x∈c.Scopes→x.length≤1000
 fr:0≤c.From∧c.From≤1000
 tu:0≤c.To∧c.To≤1000
theorem CSm.wb {c:z0e} (h:CSm c):CWB c:=
 ⟨by have:=h.id; omega,by have:=h.subject; omega,by have:=h.issuer; omega,by have:=h.parent; omega,⟨by have:=h.aud.1; omega,fun x hx=>by have:=h.aud.2 x hx; omega⟩,⟨by have:=h.sc.1; omega,fun x hx=>by have:=h.sc.2 x hx; omega⟩,by have:=h.fr; omega,by have:=h.tu; omega⟩
theorem CSm.len {c:z0e} (h:CSm c):(txC c).length≤12000:=by
 have h1:=x2u 1000 [32] c.Audience h.aud.2
 have h2:=x2u 1000 [32] c.Scopes h.sc.2
 have h3:c.Audience.length * (1000+([32]:Bs).length)≤5 * 1001:=Nat.mul_le_mul h.aud.1 (by simp)
 have h4:c.Scopes.length * (1000+([32]:Bs).length)≤5 * 1001:=Nat.mul_le_mul h.sc.1 (by simp)
 have h5:=(y8k c.From (by have:=h.fr; omega)).1
 have h6:=(y8k c.To (by have:=h.tu; omega)).1
 have a1:=h.id; have a2:=h.subject; have a3:=h.issuer; have a4:=h.parent
 have hp:(parL c).length≤20:=by
  unfold parL
  split
  ·simp; omega
  ·simp
 have hf:(w5m c).length≤5020:=by
  unfold w5m
  split
  ·simp; omega
  ·simp
 have hm:(mayL c).length≤5020:=by
  unfold mayL
  split
  ·simp; omega
  ·simp
 rw [w8s h.wb]
 unfold hdC
 simp; omega
theorem y4e {x:Bs} {l:List Bs} (h:x∈l) (hl:l.all fun y=>decide (y.length≤10)):x.length≤10:=by
 have:=List.all_eq_true.1 hl x h
 simpa using this
theorem x3y {k:Int} {s:z0d} (h:SB k s) (hk:k≤100000):Ok (z32 s) fun r=>CSm r.1∧SB (k+20) r.2:=by
 unfold z32
 refine z08 (y16 h (by omega) _ ⟨by simp,by simp⟩) fun r2 h2=>z08 (y16 h2.2 (by omega) _ ⟨by simp,by simp⟩) fun r4 h4=>z08 (y16 h4.2 (by omega) _ ⟨by simp,by simp⟩) fun r6 h6=>z08 (y16 h6.2 (by omega) _ ⟨by simp,by simp⟩) fun r8 h8=>z08 (y6u h8.2 (by omega) _ (by omega)) fun r10 h10 => ?_
 refine z08 (v0r _ _ ⟨h10.1.1,by have:=h10.1.2.1 (by omega); simp; omega⟩) fun x12 h12=>z08 (x0g h10.2 (by omega)) fun r14 h14 => ?_
 have hsh:Sh r14.1:=⟨by have:=h14.1.1; omega,fun x hx=>by have:=h14.1.2 x hx; omega⟩
 rw [x38 r14.1 hsh]
 simp only [Option.bind_some]
 refine z08 (y4k h14.2 (by omega) _ ⟨by simp,by simp⟩) fun r18 h18=>z08 (y4k h18.2 (by omega) _ ⟨by simp,by simp⟩) fun r20 h20 => ?_
 have b18:0≤r18.1∧r18.1≤100:=by
  have:=h18.1
  simp only [List.mem_cons,List.not_mem_nil,or_false] at this
  omega
 have b20:0≤r20.1∧r20.1≤200:=by
  have:=h20.1
  simp only [List.mem_cons,List.not_mem_nil,or_false] at this
  omega
 have e:wr (r18.1+r20.1)=r18.1+r20.1:=y3a (by omega)
 rw [e]
 refine z1v ⟨⟨y4e h2.1 (by decide),y4e h4.1 (by decide),y4e h6.1 (by decide),y4e h8.1 (by decide),?_,⟨?_,fun x hx => ?_⟩,by simp only; omega,by simp only; omega⟩,h20.2.mono (by omega)⟩
 ·simp only [List.mem_cons,List.not_mem_nil,or_false] at h12
  rcases h12 with rfl | rfl | rfl | rfl | rfl <;> simp
 ·have:=w12 r14.1
  have:=h14.1.1
  simp only; omega
 ·have:=((w11 r14.1 x).1 hx).1
  have:=h14.1.2 x this
  omega
theorem x6e (old new:Bs):∀ (k:Nat) (s:Bs),(Lib.replaceK old new k s).length≤s.length+k * new.length
 | 0,s=>by simp [Lib.replaceK]
 | k+1,s=>by
  rw [Lib.replaceK]
  split
  ·omega
  ·have ih:=x6e old new k (s.drop ((Lib.index s old).toNat+old.length))
   rw [List.length_append,List.length_append,List.length_take]
   rw [List.length_drop] at ih
   rw [Nat.succ_mul]
   omega
theorem w43 (s old new:Bs):(Lib.replace s old new 1).length≤s.length+new.length:=by
 unfold Lib.replace
 split
 ·omega
 ·have h1:=x6e old new (Lib.replaceNum s old 1) s
  have h2:Lib.replaceNum s old 1≤1:=by
   unfold Lib.replaceNum
   split
   ·omega
   ·simp
  have h3:=Nat.mul_le_mul_right new.length h2
  omega
theorem x5n {k:Int} {s:z0d} (h:SB k s) (hk:k≤10000):Ok (z6e s) fun r=>r.1.length≤48500∧SB (k+100) r.2:=by
 unfold z6e
 refine z08 (x3y h (by omega)) fun r2 h2 => ?_
 rw [x2p h2.1.wb]
 simp only [Option.bind_some]
 refine z08 (y4k h2.2 (by omega) _ ⟨by simp,by simp⟩) fun r6 h6 => ?_
 have b6:0≤r6.1∧r6.1≤2:=by
  have:=h6.1
  simp only [List.mem_cons,List.not_mem_nil,or_false] at this
  omega
 refine ok_g (by omega) (x8z (I:=fun j (q:Bs×(List Int)×Int)=>j≤2→(((j=0→q.1.length≤12000)∧(j=1→q.1.length≤24100)∧(j=2→q.1.length≤48300))∧SB (k+21+3 * (j:Int)) ⟨q.2.1,q.2.2⟩)) _ _ _ (fun _=>⟨⟨fun _=>h2.1.len,by omega,by omega⟩,by simpa using h6.2.mono (by omega)⟩) ?_ ?_)
 ·rintro j ⟨t8,c9,c10⟩ _ hj hI
  have hj2:j < 2:=by omega
  obtain ⟨i1,i2⟩:=hI (by omega)
  simp only at i1 i2
  unfold z7h
  have ht0:t8.length≤50000:=by
   have hc:j=0∨j=1:=by omega
   omega
  refine z08 (x4g i2 (by omega) t8 _ (by omega) (by simp)) fun r27 h27=>z1v fun _=>⟨?_,h27.2.mono (by omega)⟩
  have:=h27.1
  simp only [List.length_cons,List.length_nil] at this
  have hc:j=0∨j=1:=by omega
  simp only; omega
 ·rintro ⟨t8,c9,c10⟩ hI
  have hr:0+r6.1.toNat≤2:=by omega
  obtain ⟨i1,i2⟩:=hI hr
  simp only at i1 i2
  have ht8:t8.length≤48300:=by
   have hc:r6.1.toNat=0∨r6.1.toNat=1∨r6.1.toNat=2:=by omega
   rcases hc with hc | hc | hc <;> (rw [hc] at i1; omega)
  unfold z7i z34
  refine z08 (y4w i2 (by omega) _ (by omega)) fun r14 h14=>y4d (fun _ => ?_) (fun _=>z1v ⟨by simp only; omega,h14.mono (by omega)⟩)
  refine z08 (y16 h14 (by omega) _ ⟨by simp,by simp⟩) fun r17 h17=>z08 (y16 h17.2 (by omega) _ ⟨by simp,by simp⟩) fun r19 h19 => ?_
  have l17:1≤r17.1.length:=by
   have:=h17.1
   simp only [List.mem_cons,List.not_mem_nil,or_false] at this
   rcases this with h | h | h | h | h <;> (rw [h]; simp)
  have l19:=y4e h19.1 (by decide)
  have:=w43 t8 r17.1 r19.1
  unfold y3q
  rw [if_pos ⟨show t8.length≤1000000 by omega,l17,by omega⟩]
  exact z1v ⟨by simp only; omega,h19.2.mono (by omega)⟩
end Go.Proofs.YtndabcepiekebaaGreatDoor
namespace Go.Proofs.YtndabcepiekebaaGreatDoor
set_option linter.unusedVariables false
set_option linter.unusedSimpArgs false
set_option linter.unusedSectionVars false
set_option maxRecDepth 20000

def badB (c:UInt8):Bool:=decide ((c.toNat:Int) < 33) || decide (126 < (c.toNat:Int))
def secF (s:Bs):Int:=if s=[]∨s.any badB=true then 3 else if 100 < s.length then 2 else 0
theorem w3t (s:Bs):(s.all fun c => !badB c) = !s.any badB:=by
 induction s with
 | nil=>rfl
 | cons c s ih=>simp only [List.all_cons,List.any_cons,ih,Bool.not_or]
theorem w6y (s:Bs) (h:s.length≤1000000000):y03 s=some (secF s):=by
 unfold y03
 rw [if_pos h,y4v (p:=fun _ c => !badB c) (r0:=3) (e:=if s=[] then 3 else if 100 < s.length then 2 else 0) ?_ s 0 fun j x _ _ => ?_]
 ·rw [y8q (fun c => !badB c),w3t]
  unfold secF
  cases s.any badB
  ·by_cases h1:s=[] <;> simp [h1]
  ·simp
 ·unfold y10
  by_cases h1:s=[]
  ·simp [h1]
  ·by_cases h2:100 < s.length
   ·have:(100:Int) < s.length:=by omega
    simp [h1,h2,this]
   ·have:¬ (100:Int) < s.length:=by omega
    simp [h1,h2,this]
 ·unfold y1z z8h badB
  by_cases h1:(x.toNat:Int) < 33
  ·simp [h1]
  ·by_cases h2:126 < (x.toNat:Int) <;> simp [h1,h2]
theorem w6h (s:Bs) (h:s.length≤1000000000):y1m s 33=some (!s.any badB):=by
 unfold y1m
 rw [if_pos h,y4v (p:=fun _ c => !badB c) (r0:=false) (e:=true) rfl s 0 fun j x _ _ => ?_]
 ·rw [y8q (fun c => !badB c),w3t]
  cases s.any badB <;> rfl
 ·unfold y2r z9e badB
  by_cases h1:(x.toNat:Int) < 33
  ·simp [h1]
  ·by_cases h2:126 < (x.toNat:Int) <;> simp [h1,h2]
theorem w6x (s:Bs) (h:s.length≤1000000000):z81 s=some (secF s):=by
 unfold z81
 have hJ:∀ b,secF s=(if b=true then 3 else if 100 < s.length then 2 else 0)→z5f s b=some (secF s):=by
  intro b hb
  rw [hb]
  unfold z5f
  cases b
  ·by_cases h2:100 < s.length
   ·have:(100:Int) < s.length:=by omega
    simp [h2,this]
   ·have:¬ (100:Int) < s.length:=by omega
    simp [h2,this]
  ·rfl
 by_cases h1:s=[]
 ·rw [if_pos (by simpa using h1)]
  exact hJ true (by unfold secF; simp [h1])
 ·rw [if_neg (by simpa using h1),w6h s h]
  refine hJ _ ?_
  unfold secF
  cases s.any badB <;> simp [h1]

structure SgB (l:List z0i):Prop where
 len:l.length≤1000
 key:∀ x,x∈l→x.Id.length≤1000∧x.Secret.length≤1000
def w0c (l:List z0i) (k:Nat) (x:z0i):Bool:=decide (0 < k) && match l[k - 1]? with | some y=>decide (x.From < y.From) | none=>false
def sg1 (l:List z0i) (k:Nat) (x:z0i):Int:=
 if (!keyP x.Id)=true then 5 else if ((l.take k).any fun o=>decide (o.Id=x.Id))=true then 6 else if secF x.Secret≠0 then secF x.Secret
 else if (outP x.From 0 x.To || decide (x.Until < x.To) || decide (345686400000 < x.Until))=true then 1 else if w0c l k x=true then 7 else 0
def sgF (l:List z0i):Int:=if 50 < l.length then 2 else feI (sg1 l) 0 l
theorem w23 (l:List z0i) (h:l.length≤1000000000) (p:z0i→Option Bool) (q:z0i→Bool) (hp:∀ x,p x=some (q x)):z2a l p=some (l.any q):=
 y9l l q h fun x _=>hp x
theorem w80 (l:List z0i) (hl:SgB l) (k:Nat) (x:z0i) (hx:l[k]?=some x):y02 l (k:Int)=some (sg1 l k x):=by
 have hk:=y1v hx
 have hb:=hl.key x (List.mem_of_getElem? hx)
 have hn:=hl.len
 unfold y02 sg1
 rw [x0a,hx]
 simp only [Option.bind_some]
 rw [y39 x.Id (by omega),y9t l k (by omega)]
 simp only [Option.bind_some]
 rw [w23 (l.take k) (by rw [List.length_take]; omega) (fun a0=>z9t a0 x) (fun o=>decide (o.Id=x.Id)) (fun _=>rfl),w6y x.Secret (by omega),w1s]
 simp only [Option.bind_some]
 have hlate:(if decide (0 < (k:Int))=true then (at? l (wr ((k:Int) - 1))).bind fun (x21:z0i)=>z56 (decide (x.From < x21.From)) else z56 false)=some (if w0c l k x=true then 7 else 0):=by
  unfold w0c z56
  by_cases h0:0 < k
  ·obtain ⟨y,hy⟩:∃ y,l[k - 1]?=some y:=⟨_,List.getElem?_eq_getElem (by omega)⟩
   have e1:at? l (wr ((k:Int) - 1))=some y:=by
    rw [y3a (by omega),show (k:Int) - 1=((k - 1:Nat):Int) by omega,x0a]; exact hy
   rw [if_pos (by simpa using h0),e1,hy]
   by_cases h1:x.From < y.From <;> simp [h0,h1]
  ·rw [if_neg (by simpa using h0)]
   simp [h0]
 rw [hlate]
 cases keyP x.Id
 ·rfl
 ·cases ((l.take k).any fun o=>decide (o.Id=x.Id))
  ·by_cases h2:secF x.Secret=0
   ·simp only [h2,Bool.not_true,Bool.false_eq_true,if_false,ne_eq,not_true_eq_false,decide_false]
    cases (outP x.From 0 x.To || decide (x.Until < x.To) || decide (345686400000 < x.Until)) <;> rfl
   ·simp [h2]
  ·rfl
theorem w8z (l:List z0i) (hl:SgB l) (k:Nat) (x:z0i) (hx:l[k]?=some x):z7z l k x=if sg1 l k x≠0 then some (.inr (sg1 l k x)) else some (.inl ()):=by
 have hk:=y1v hx
 have hb:=hl.key x (List.mem_of_getElem? hx)
 have hn:=hl.len
 unfold z7z sg1
 rw [y7y x.Id (by omega),y9t l k (by omega)]
 simp only [Option.bind_some]
 rw [w23 (l.take k) (by rw [List.length_take]; omega) (fun a0=>z7b a0 x) (fun o=>decide (o.Id=x.Id)) (fun _=>rfl),w6x x.Secret (by omega),w5l]
 simp only [Option.bind_some]
 have hlate:(if decide (0 < (k:Int))=true then (at? l ((k:Int) - 1)).bind fun (x21:z0i)=>z3m (decide (x.From < x21.From)) else z3m false)=if w0c l k x=true then some (.inr 7) else some (.inl ()):=by
  unfold w0c z3m
  by_cases h0:0 < k
  ·obtain ⟨y,hy⟩:∃ y,l[k - 1]?=some y:=⟨_,List.getElem?_eq_getElem (by omega)⟩
   have e1:at? l ((k:Int) - 1)=some y:=by
    rw [show (k:Int) - 1=((k - 1:Nat):Int) by omega,x0a]; exact hy
   rw [if_pos (by simpa using h0),e1,hy]
   by_cases h1:x.From < y.From <;> simp [h0,h1]
  ·rw [if_neg (by simpa using h0)]
   simp [h0]
 rw [hlate,Bool.not_not]
 cases keyP x.Id
 ·rfl
 ·cases ((l.take k).any fun o=>decide (o.Id=x.Id))
  ·by_cases h2:secF x.Secret=0
   ·simp only [h2,Bool.not_true,Bool.false_eq_true,if_false,ne_eq,not_true_eq_false,decide_false]
    cases (outP x.From 0 x.To || decide (x.Until < x.To) || decide (345686400000 < x.Until))
    ·cases w0c l k x <;> rfl
    ·rfl
   ·simp [h2]
  ·rfl
theorem w29 (l:List z0i) (hl:SgB l):z8i l=some (sgF l):=by
 have hn:=hl.len
 unfold z8i sgF
 by_cases h1:50 < l.length
 ·rw [if_pos (by simp; omega),if_pos h1]
 ·rw [if_neg (by simp; omega),if_neg h1,if_pos (by omega)]
  refine x0q rfl l 0 fun j x _ hx => ?_
  have hx:l[j]?=some x:=by simpa using hx
  unfold y1g
  rw [w80 l hl j x hx]
  simp only [Option.bind_some]
  by_cases h2:sg1 l j x=0 <;> simp [h2]
theorem w2p (l:List z0i) (hl:SgB l):z8a l=some (sgF l):=by
 have hn:=hl.len
 unfold z8a sgF
 by_cases h1:50 < l.length
 ·rw [if_pos (by simp; omega),if_pos h1]
 ·rw [if_neg (by simp; omega),if_neg h1,if_pos (by omega)]
  exact x0q rfl l 0 fun j x _ hx=>w8z l hl j x (by simpa using hx)

def w5i (l:List z0i) (a:Int):Bool:=match l[l.length - 1]? with | some y=>decide (a < y.From) | none=>false
def rtF (l:List z0i) (id secret:Bs) (a long life:Int):Int:=
 if (!keyP id)=true then 5 else if (l.any fun o=>decide (o.Id=id))=true then 6 else if secF secret≠0 then secF secret
 else if (!momP a || outP long 1 345686400000 || outP life 0 345686400000)=true then 1 else if w5i l a=true then 7 else if 50≤l.length then 2 else 0
def cutS (a:Int) (x:z0i):z0i:=⟨x.Id,x.Secret,x.From,min x.To a,x.Until⟩
def newS (id secret:Bs) (a long life:Int):z0i:=⟨id,secret,a,min (wr (a+long)) 345686400000,min (wr (min (wr (a+long)) 345686400000+life)) 345686400000⟩
section
variable (l:List z0i) (hl:SgB l) (id secret:Bs) (a long life:Int) (hid:id.length≤1000) (hse:secret.length≤1000)
include hl hid hse
end
theorem w1k {k:Int} {s:z0d} (h:SB k s) (hk:k≤1000000):Ok (z7u s) fun r=>r.1.length≤1000∧SB (k+1) r.2:=by
 unfold z7u z5o
 rw [if_pos (by decide)]
 simp only [Option.bind_some]
 refine z08 (y16 h (by omega) _ ⟨by simp,by simp⟩) fun r hr=>z1v ⟨?_,hr.2⟩
 have h1:=hr.1
 simp only [List.mem_cons,List.not_mem_nil,or_false] at h1
 simp only
 rcases h1 with h1 | h1 | h1 | h1 | h1 | h1 | h1 | h1 | h1 <;> rw [h1] <;> first | decide | (rw [Lib.repeatL_length]; decide)
theorem w1v {k:Int} {s:z0d} (h:SB k s) (hk:k≤1000000):Ok (z7w s) fun r=>SB (k+1) r.2:=by
 unfold z7w
 exact z08 (y4k h (by omega) _ ⟨by simp,by simp⟩) fun r hr=>z1v hr.2
theorem x9z {k:Int} {s:z0d} (h:SB k s) (hk:k≤1000000):Ok (z4y s) fun r=>SgB r.1∧SB (k+20) r.2:=by
 unfold z4y
 refine z08 (x46 h (by omega) 0 3 (by omega)) fun r2 h2 => ?_
 have hsub:Ok (sub? ([[115,49],[115,50],[115,51]]:List Bs) 0 r2.1) fun l=>l.length≤3∧∀ x,x∈l→x.length≤2:=by
  unfold sub?
  rw [if_pos (by simp; omega)]
  refine z1v ⟨by simp; omega,fun x hx => ?_⟩
  have:=List.mem_of_mem_take hx
  have:=List.mem_of_mem_drop this
  simp at this
  rcases this with rfl | rfl | rfl <;> decide
 refine z08 hsub fun l4 h4=>ok_g (by omega) ?_
 refine x0h (fun (j:Nat) (q:Int×(List Int)×Int×(List z0i))=>SB (k+1+4 * (j:Int)) ⟨q.2.1,q.2.2.1⟩∧q.2.2.2.length≤j∧∀ x,x∈q.2.2.2→x.Id.length≤1000∧x.Secret.length≤1000) l4 0 _ ⟨by simpa using h2.2,by simp,by simp⟩ ?_ ?_
 ·rintro j x ⟨v6,c7,c8,l9⟩ _ hx ⟨q1,q2,q3⟩
  simp only at q1 q2 q3
  have hx:l4[j]?=some x:=by simpa using hx
  have hj:=y1v hx
  have hxl:=h4.2 x (List.mem_of_getElem? hx)
  unfold z6w
  refine z08 (y4k q1 (by omega) _ ⟨by simp,by simp⟩) fun r16 h16=>z08 (y16 h16.2 (by omega) _ ⟨by simp,by simp⟩) fun r18 h18=>z08 (y4k h18.2 (by omega) _ ⟨by simp,by simp⟩) fun r20 h20=>z08 (y4k h20.2 (by omega) _ ⟨by simp,by simp⟩) fun r22 h22=>ok_g (by simp only; omega) (z1v ⟨h22.2.mono (by omega),by simp; omega,fun y hy => ?_⟩)
  rcases List.mem_append.1 hy with hy | hy
  ·exact q3 y hy
  ·simp only [List.mem_singleton] at hy
   subst hy
   refine ⟨by simp only; omega,?_⟩
   show r18.1.length≤1000
   have:=h18.1
   simp only [List.mem_cons,List.not_mem_nil,or_false] at this
   rcases this with h | h | h <;> rw [h] <;> decide
 ·rintro ⟨v6,c7,c8,l9⟩ ⟨q1,q2,q3⟩
  simp only at q1 q2 q3
  exact z1v ⟨⟨by simp only; omega,q3⟩,q1.mono (by omega)⟩
theorem x9y {k:Int} {s:z0d} (h:SB k s) (hk:k≤100000):Ok (z7c s) fun r=>SgB r.1∧SB (k+40) r.2:=by
 unfold z7c
 refine z08 (x9z h (by omega)) fun r2 h2 => ?_
 obtain ⟨hb,hs2⟩:=h2
 have hn:=hb.len
 have hset:∀ (i:Nat) (y:z0i),y.Id.length≤1000∧y.Secret.length≤1000→∀ l,SgB l→SgB (l.set i y):=fun i y hy l hl=>⟨by simpa using hl.len,fun x hx=>by
  rcases List.mem_or_eq_of_mem_set hx with hx | rfl
  ·exact hl.key x hx
  ·exact hy⟩
 have hJ2:∀ b c a,SB (k+21) ⟨c,a⟩→(b=true→0 < r2.1.length)→Ok (z3w r2 b c a) fun r=>SgB r.1∧SB (k+40) r.2:=by
  intro b c a hs hb0
  unfold z3w z23
  refine y4d (fun hb1 => ?_) (fun _=>z1v ⟨hb,hs.mono (by omega)⟩)
  have hpos:=hb0 hb1
  refine z08 (y6u hs (by omega) _ (by omega)) fun r13 h13 => ?_
  have h14:=h13.1.2.1 (by omega)
  have hat:Ok (at? r2.1 r13.1) fun x=>x∈r2.1:=by
   unfold at?
   rw [if_pos h13.1.1,List.getElem?_eq_getElem (by omega)]
   exact ⟨_,rfl,List.getElem_mem _⟩
  refine z08 hat fun x15 hx15=>z08 (y6u h13.2 (by omega) _ (by omega)) fun r17 h17 => ?_
  have hx:=hb.key x15 hx15
  refine y4d (fun _ => ?_) (fun _=>y4d (fun _ => ?_) (fun _ => ?_))
  ·refine z08 (y16 h17.2 (by omega) _ ⟨by simp,by simp⟩) fun r20 h20=>z1v ⟨hset _ ⟨r20.1,x15.Secret,x15.From,x15.To,x15.Until⟩ ⟨?_,hx.2⟩ _ hb,h20.2.mono (by omega)⟩
   show r20.1.length≤1000
   have:=h20.1
   simp only [List.mem_cons,List.not_mem_nil,or_false] at this
   rcases this with h | h | h <;> rw [h] <;> decide
  ·exact z08 (w1k h17.2 (by omega)) fun r23 h23=>z1v ⟨hset _ ⟨x15.Id,r23.1,x15.From,x15.To,x15.Until⟩ ⟨hx.1,h23.1⟩ _ hb,h23.2.mono (by omega)⟩
  ·exact z08 (x33 h17.2 (by omega) _ _ (by omega)) fun r25 h25=>z08 (x33 h25.2 (by omega) _ _ (by omega)) fun r27 h27=>z1v ⟨hset _ ⟨x15.Id,x15.Secret,r25.1,r27.1,x15.Until⟩ hx _ (hset _ ⟨x15.Id,x15.Secret,r25.1,x15.To,x15.Until⟩ hx _ hb),h27.2.mono (by omega)⟩
 refine y4d (fun h => ?_) (fun _=>hJ2 _ _ _ (hs2.mono (by omega)) fun h=>by cases h)
 exact z08 (y4w hs2 (by omega) _ (by omega)) fun r6 h6=>hJ2 _ _ _ (h6.mono (by omega)) fun _=>by simpa using h
end Go.Proofs.YtndabcepiekebaaGreatDoor
