/- Plain: secrets, signers. -/
import Derived.Test.YtndabcepiekebaaGreatDoorCxZk
import Derived.Test.YtndabcepiekebaaGreatDoorYdbZk
namespace Go.Proofs.YtndabcepiekebaaGreatDoor
set_option linter.unusedVariables false
set_option linter.unusedSimpArgs false
set_option linter.unusedSectionVars false
set_option maxRecDepth 20000
abbrev CRd:=qi
noncomputable def pT (a b c d:Bs) (au sc:List Bs) (s:CRd):Option (zm×Int×Int):=
 (Qc s).bind fun (r17:(Int×Int×qi))=>if (r17.2.2.bad_ || (decide (r17.2.2.at_ < (r17.2.2.lines_.length:Int)))) then (some ((zm.mk [] [] [] [] [] [] 0 0),r17.2.2.at_,9)) else ((z4y (zm.mk a b c d au sc r17.1 r17.2.1)).bind fun (r20:(Int))=>if decide (r20≠0) then (some ((zm.mk [] [] [] [] [] [] 0 0),0,r20)) else (some ((zm.mk a b c d au sc r17.1 r17.2.1),0,0)))
noncomputable def pM (a b c d:Bs) (au:List Bs) (s:CRd):=(kx s [109,97,121] false).bind fun (r15:((List Bs)×qi))=>pT a b c d au r15.1 r15.2
noncomputable def pF (a b c d:Bs) (s:CRd):=(kx s [102,111,114] false).bind fun (r13:((List Bs)×qi))=>pM a b c d r13.1 r13.2
noncomputable def pP (a b c:Bs) (s:CRd):=(kk s [112,97,114,101,110,116] false).bind fun (r11:(Bs×qi))=>pF a b c r11.1 r11.2
noncomputable def pI (a b:Bs) (s:CRd):=(kk s [105,115,115,117,101,114] true).bind fun (r9:(Bs×qi))=>pP a b r9.1 r9.2
noncomputable def pS (a:Bs) (s:CRd):=(kk s [115,117,98,106,101,99,116] true).bind fun (r7:(Bs×qi))=>pI a r7.1 r7.2
noncomputable def pD (s:CRd):=(kk s [105,100] true).bind fun (r5:(Bs×qi))=>pS r5.1 r5.2
theorem y6a (L:List Bs) (e:Bool) (i:Int) (w:Bs) (m:Bool):kx (qi.mk L e i true) w m=some ([],qi.mk L e i true):=by
 unfold kx; rfl
theorem y9r (L:List Bs) (e:Bool) (i:Int) (w:Bs) (m:Bool):kk (qi.mk L e i true) w m=some ([],qi.mk L e i true):=by
 unfold kk
 rw [y6a]; rfl
theorem x6q (a b c d:Bs) (au sc L:List Bs) (e:Bool) (i:Nat):pT a b c d au sc (qi.mk L e (i:Int) true)=some (errC i):=by
 unfold pT Qc
 rw [y6a]; rfl
theorem x6s (a b c d:Bs) (au L:List Bs) (e:Bool) (i:Nat):pM a b c d au (qi.mk L e (i:Int) true)=some (errC i):=by
 unfold pM; rw [y6a]; exact x6q a b c d au [] L e i
theorem x6u (a b c d:Bs) (L:List Bs) (e:Bool) (i:Nat):pF a b c d (qi.mk L e (i:Int) true)=some (errC i):=by
 unfold pF; rw [y6a]; exact x6s a b c d [] L e i
theorem x6r (a b c:Bs) (L:List Bs) (e:Bool) (i:Nat):pP a b c (qi.mk L e (i:Int) true)=some (errC i):=by
 unfold pP; rw [y9r]; exact x6u a b c [] L e i
theorem x6t (a b:Bs) (L:List Bs) (e:Bool) (i:Nat):pI a b (qi.mk L e (i:Int) true)=some (errC i):=by
 unfold pI; rw [y9r]; exact x6r a b [] L e i
theorem w8n (a:Bs) (L:List Bs) (e:Bool) (i:Nat):pS a (qi.mk L e (i:Int) true)=some (errC i):=by
 unfold pS; rw [y9r]; exact x6t a [] L e i
section
variable {Ls:List Bs} {e:Bool} (hn:Ls.length≤10000) (hp:∀ x,x∈Ls→x.length≤10000)
include hn hp
theorem y78 (i:Nat) (h:Ls.drop i=[]) (hi:i≤Ls.length) (w:Bs) (m:Bool):kx (qi.mk Ls e (i:Int) false) w m=some ([],qi.mk Ls e (i:Int) m):=by
 have:i=Ls.length:=by have:=List.drop_eq_nil_iff.1 h; omega
 unfold kx
 rw [if_neg (by simp),if_pos (decide_eq_true (by show (i:Int)=(Ls.length:Int); omega))]
theorem y79 {i:Nat} {x:Bs} {L:List Bs} (h:Ls.drop i=x::L) (k:Nat) (hk:k < 7) (m:Bool):kx (qi.mk Ls e (i:Int) false) (kdL.getD k []) m =
  some (if kd (qc x)≠k then ([],qi.mk Ls e (i:Int) m) else if []∈vp x∨(L=[]∧e=false) then ([],qi.mk Ls e (i:Int) true) else (vp x,qi.mk Ls e ((i+1:Nat):Int) false)):=by
 have hlt:i < Ls.length:=by
  have:=congrArg List.length h
  simp at this; omega
 have hx:Ls[i]?=some x:=by
  have:=congrArg (·[0]?) h
  simpa using this
 have hL:L.length=Ls.length - i - 1:=by
  have:=congrArg List.length h
  simp at this; omega
 have hxl:=hp x (List.mem_of_getElem? hx)
 have hcut:Lib.cut x [32]=(qc x,(if 32∈x then (Lib.cut x [32]).2.1 else []),decide (32∈x))∧spl 32 (if 32∈x then (Lib.cut x [32]).2.1 else [])=vp x:=by
  by_cases hm:32∈x
  ·obtain ⟨p,q,rfl,h2⟩:=z67 hm
   have e1:=y57 32 p q h2
   unfold qc vp
   rw [e1,splA 32 q p h2]
   simp
  ·obtain ⟨e1,e2,e3⟩:=z2l hm
   rw [x55 32 x hm,e2,e3]
   simp [hm,spl]
 obtain ⟨c1,c2⟩:=hcut
 generalize hrest:(if 32∈x then (Lib.cut x [32]).2.1 else [])=rest at c1 c2
 have hrl:rest.length≤x.length:=by
  rw [← hrest]
  split
  ·rename_i hm
   obtain ⟨p,q,rfl,h2⟩:=z67 hm
   rw [y57 32 p q h2]
   simp; omega
  ·simp
 have hcm:xq x [32]=some (qc x,rest,decide (32∈x)):=by unfold xq; rw [if_pos (by omega),c1]
 unfold kx
 rw [if_neg (by simp),if_neg (by simp; omega)]
 rw [Qt,hx]
 simp only [Option.bind_some,hcm]
 by_cases hkd:kd (qc x)=k
 ·have hh:=(z5y (qc x) k hk).1 hkd
  rw [if_neg (by simpa using hh),if_neg (not_not_intro hkd),x7h rest (by omega),c2]
  simp only [Option.bind_some]
  have hw:wr ((Ls.length:Int) - 1)=(Ls.length:Int) - 1:=vh (by omega)
  have hw2:wr ((i:Int)+1)=((i+1:Nat):Int):=by rw [vh (by omega)]; omega
  rw [hw,hw2]
  have hlast:L=[]↔(i:Int)=(Ls.length:Int) - 1:=by
   rw [← List.length_eq_zero_iff]; omega
  by_cases hem:[]∈vp x
  ·have hy:((vp x).any fun y=>decide ([]=y))=true:=by rw [List.any_eq_true]; exact ⟨[],hem,by simp⟩
   rw [hy,if_pos (by simp),if_pos (.inl hem)]
  ·have hany:((vp x).any fun y=>decide ([]=y))=false:=by
    rw [List.any_eq_false]
    intro y hy hd
    have:([]:Bs)=y:=of_decide_eq_true hd
    rw [← this] at hy
    exact hem hy
   rw [hany]
   by_cases hl2:L=[]∧e=false
   ·rw [if_pos (by rw [hl2.2,decide_eq_true (hlast.1 hl2.1)]; simp),if_pos (.inr hl2)]
   ·rw [if_neg,if_neg (by rintro (h | h); exact hem h; exact hl2 h)]
    intro hh
    simp only [Bool.not_false,Bool.not_true,Bool.false_or,Bool.and_eq_true,Bool.not_eq_true',decide_eq_true_eq] at hh
    exact hl2 ⟨hlast.2 hh.2,hh.1⟩
 ·rw [if_pos (by simpa using fun hh=>hkd ((z5y (qc x) k hk).2 hh)),if_pos hkd]
theorem w1z (i:Nat) (h:Ls.drop i=[]) (hi:i≤Ls.length) (w:Bs) (m:Bool):kk (qi.mk Ls e (i:Int) false) w m=some ([],qi.mk Ls e (i:Int) m):=by
 unfold kk
 rw [y78 hn hp i h hi]
 rfl
theorem w10 {i:Nat} {x:Bs} {L:List Bs} (h:Ls.drop i=x::L) (k:Nat) (hk:k < 7) (m:Bool):kk (qi.mk Ls e (i:Int) false) (kdL.getD k []) m =
  some (if kd (qc x)≠k then ([],qi.mk Ls e (i:Int) m) else if []∈vp x∨(L=[]∧e=false)∨(vp x).length≠1 then ([],qi.mk Ls e (i:Int) true) else ((vp x).getD 0 [],qi.mk Ls e ((i+1:Nat):Int) false)):=by
 have hlt:i < Ls.length:=by
  have:=congrArg List.length h
  simp at this; omega
 have hl:=y79 (e:=e) hn hp h k hk m
 unfold kk
 by_cases hkd:kd (qc x)=k
 ·rw [if_neg (not_not_intro hkd)] at hl
  rw [hl,if_neg (not_not_intro hkd)]
  by_cases hc:[]∈vp x∨(L=[]∧e=false)
  ·rw [if_pos hc,if_pos (show []∈vp x∨(L=[]∧e=false)∨(vp x).length≠1 from hc.elim .inl (fun h => .inr (.inl h)))]
   rfl
  ·rw [if_neg hc]
   have hne:vp x≠[]:=by
    by_cases hm:32∈x
    ·exact (z0h hm).2
    ·rw [(z2l hm).2.2]; simp
   by_cases h1:(vp x).length=1
   ·obtain ⟨y,hy⟩:=List.length_eq_one_iff.1 h1
    rw [if_neg (show ¬ ([]∈vp x∨(L=[]∧e=false)∨(vp x).length≠1) by rintro (h | h | h); exact hc (.inl h); exact hc (.inr h); exact h h1),hy]
    rfl
   ·have hlen:1 < (vp x).length:=by
     have:=List.length_pos_iff.2 hne
     omega
    rw [if_pos (show []∈vp x∨(L=[]∧e=false)∨(vp x).length≠1 from .inr (.inr h1))]
    simp only [Option.bind_some]
    rw [if_pos (decide_eq_true (by omega)),vh (by omega)]
    unfold z39
    rw [if_pos (decide_eq_true (by simp only; omega))]
    simp only
    congr 3
    omega
 ·rw [if_pos hkd] at hl
  rw [hl,if_pos hkd]
  rfl
theorem y9j {i:Nat} {x:Bs} {L:List Bs} (h:Ls.drop i=x::L):Ls.drop (i+1)=L∧i+1≤Ls.length∧x∈Ls:=by
 have hlt:i < Ls.length:=by
  have:=congrArg List.length h
  simp at this; omega
 refine ⟨?_,hlt,?_⟩
 ·rw [← List.drop_drop,h]; rfl
 ·exact List.mem_of_mem_drop (by rw [h]; simp)
theorem y6q {x:Bs} (h:x.length≤10000):Sh (vp x):=by
 by_cases hm:32∈x
 ·have h1:=y23 (x:=x) (by omega)
  rw [(z0h hm).1] at h1
  exact ⟨by have:=h1.1; simp at this; omega,fun y hy=>h1.2 y (by simp [hy])⟩
 ·rw [(z2l hm).2.2]; exact ⟨by simp,by simp⟩
theorem z7a {x:Bs} {k:Nat} (hk:k < 7) (h:kd (qc x)=k) (hm:32∈x):[]∈spl 32 x↔[]∈vp x:=by
 have hh:=(z5y (qc x) k hk).1 h
 have hne:qc x≠[]:=by
  rw [hh]
  have hc:k=0∨k=1∨k=2∨k=3∨k=4∨k=5∨k=6:=by omega
  rcases hc with rfl | rfl | rfl | rfl | rfl | rfl | rfl <;> decide
 rw [(z0h hm).1]
 simp [Ne.symm hne]
theorem y7g {x:Bs} (hm:32 ∉ x) (k:Nat) (c:zm):setC k c (spl 32 x)=none:=by
 rw [(z2l hm).1]
 unfold setC
 split <;> simp
theorem T_eq (a b c d:Bs) (au sc:List Bs) (i:Nat) (hi:i≤Ls.length) (hc:ClB (zm.mk a b c d au sc 0 0)):pT a b c d au sc (qi.mk Ls e (i:Int) false)=some (rdC e (Ls.drop i) 6 i (zm.mk a b c d au sc 0 0)):=by
 cases hd:Ls.drop i with
 | nil =>
  unfold pT Qc
  rw [y78 hn hp i hd hi]
  rfl
 | cons x L =>
  obtain ⟨d1,d2,d3⟩:=y9j hn hp hd
  have hxl:=hp x d3
  have hline:=y79 (e:=e) hn hp hd 6 (by omega) true
  have hline:kx (qi.mk Ls e (i:Int) false) [116,105,109,101] true=_:=hline
  by_cases hkd:kd (qc x)=6
  ·rw [y7l (by omega) hkd]
   rw [if_neg (not_not_intro hkd)] at hline
   by_cases hcond:[]∈vp x∨(L=[]∧e=false)
   ·rw [if_pos hcond] at hline
    have hr:pT a b c d au sc (qi.mk Ls e (i:Int) false)=some (errC i):=by
     unfold pT Qc
     rw [hline]; rfl
    rw [hr]
    by_cases hm:32∈x
    ·rw [if_pos (hcond.elim (fun h => .inr ((z7a hn hp (by omega) hkd hm).2 h)) .inl)]
    ·split
     ·rfl
     ·rw [y7g hn hp hm]
   ·rw [if_neg hcond] at hline
    have hm:32∈x:=by
     by_cases hm:32∈x
     ·exact hm
     ·exact absurd (.inl (by rw [(z2l hm).2.2]; simp)) hcond
    rw [if_neg (by rintro (h | h); exact hcond (.inr h); exact hcond (.inl ((z7a hn hp (by omega) hkd hm).1 h)))]
    have hts:=y6q hn hp hxl
    rw [(z0h hm).1]
    generalize htw:vp x=tw at *
    have hset:setC 6 (zm.mk a b c d au sc 0 0) (qc x::tw)=if (qc x::tw).length=3∧okN 15 ((qc x::tw).getD 1 [])=true∧okN 15 ((qc x::tw).getD 2 [])=true then some (zm.mk a b c d au sc (valB ((qc x::tw).getD 1 [])) (valB ((qc x::tw).getD 2 []))) else none:=rfl
    rw [hset]
    unfold pT Qc
    rw [hline]
    simp only [Option.bind_some]
    rw [if_neg (by simp)]
    by_cases h2:tw.length=2
    ·obtain ⟨y,z,rfl⟩:∃ y z,tw=[y,z]:=by
      match tw,h2 with
      | [y,z],_=>exact ⟨y,z,rfl⟩
     have k1:Qe y 15=_:=x3s y 15 (by omega) (hts.2 y (by simp))
     have k2:Qe z 15=_:=x3s z 15 (by omega) (hts.2 z (by simp))
     rw [if_pos (by simp)]
     simp only [List.getElem?_cons_zero,List.getElem?_cons_succ,Option.bind_some,k1,k2]
     by_cases ho:okN 15 y=true∧okN 15 z=true
     ·obtain ⟨o1,o2⟩:=ho
      have hs:(if [qc x,y,z].length=3∧okN 15 ([qc x,y,z].getD 1 [])=true∧okN 15 ([qc x,y,z].getD 2 [])=true then some (zm.mk a b c d au sc (valB ([qc x,y,z].getD 1 [])) (valB ([qc x,y,z].getD 2 []))) else none)=some (zm.mk a b c d au sc (valB y) (valB z)):=if_pos ⟨rfl,o1,o2⟩
      rw [hs,o1,o2]
      rw [if_pos (by simp)]
      simp only [Option.bind_some,if_true,Bool.false_or]
      have hcv:ClB (zm.mk a b c d au sc (valB y) (valB z)):=⟨hc.id,hc.subject,hc.issuer,hc.parent,hc.aud,hc.sc⟩
      cases L with
      | nil =>
       have hl:Ls.length=i+1:=by
        have:=List.drop_eq_nil_iff.1 d1
        omega
       rw [if_neg (by simp; omega),w79 _ hcv]
       simp only [Option.bind_some]
       show _=some (if (7:Nat)=7 then finC _ else errC (i+1))
       rw [if_pos rfl]
       unfold finC
       show _=some (if clF (zm.mk a b c d au sc (valB y) (valB z))≠0 then (kf,0,clF (zm.mk a b c d au sc (valB y) (valB z))) else (zm.mk a b c d au sc (valB y) (valB z),0,0))
       by_cases h0:clF (zm.mk a b c d au sc (valB y) (valB z))=0 <;> simp [h0,kf]
      | cons u L' =>
       have hl:i+1 < Ls.length:=by
        have:=congrArg List.length d1
        simp at this; omega
       rw [if_pos (decide_eq_true (by omega))]
       have hs:=w12 ⟨kd (qc u),by have:=y0o (qc u); omega⟩
       simp only at hs
       show _=some (rdC e (u::L') 7 (i+1) _)
       rw [rdC,if_pos (.inr (.inl hs))]
       rfl
     ·rw [if_neg (by simp only [Bool.and_eq_true]; exact ho),if_neg (fun h=>ho ⟨by simpa using h.2.1,by simpa using h.2.2⟩)]
      unfold z03
      rw [vh (by simp only; omega)]
      show some (kf,((i+1:Nat):Int) - 1,(9:Int))=some (errC i)
      unfold errC
      congr 3
      omega
    ·rw [if_neg (by simp; omega),if_neg (fun h=>h2 (by simpa using h.1))]
     unfold z03
     rw [vh (by simp only; omega)]
     show some (kf,((i+1:Nat):Int) - 1,(9:Int))=some (errC i)
     unfold errC
     congr 3
     omega
  ·rw [x2j (by omega) hkd]
   rw [if_pos hkd] at hline
   unfold pT Qc
   rw [hline]; rfl
theorem x3c {k:Nat} (hk:k=4∨k=5) {R:List Bs→CRd→Option (zm×Int×Int)} {c:zm} {mk:List Bs→zm} (i:Nat) (hi:i≤Ls.length)
  (hbad:∀ i,R [] (qi.mk Ls e ((i:Nat):Int) true)=some (errC i)) (hmk:mk []=c) (hset:∀ w,setC k c w=if 1 < w.length then some (mk (w.drop 1)) else none)
  (hgood:∀ w i,Sh w→i≤Ls.length→R w (qi.mk Ls e ((i:Nat):Int) false)=some (rdC e (Ls.drop i) (k+1) i (mk w))) :
  (kx (qi.mk Ls e (i:Int) false) (kdL.getD k []) false).bind (fun r=>R r.1 r.2)=some (rdC e (Ls.drop i) k i c):=by
 have hsh:Sh ([]:List Bs):=⟨by simp,by simp⟩
 cases hd:Ls.drop i with
 | nil =>
  rw [y78 hn hp i hd hi]
  simp only [Option.bind_some]
  rw [hgood [] i hsh hi,hd]
  simp only [rdC]
  rw [if_neg (by omega),if_neg (by omega)]
 | cons x L =>
  obtain ⟨d1,d2,d3⟩:=y9j hn hp hd
  have hxl:=hp x d3
  rw [y79 hn hp hd k (by omega)]
  simp only [Option.bind_some]
  by_cases hkd:kd (qc x)=k
  ·rw [y7l (by omega) hkd,if_neg (not_not_intro hkd)]
   by_cases hcond:[]∈vp x∨(L=[]∧e=false)
   ·rw [if_pos hcond,hbad]
    by_cases hm:32∈x
    ·rw [if_pos (hcond.elim (fun h => .inr ((z7a hn hp (by omega) hkd hm).2 h)) .inl)]
    ·split
     ·rfl
     ·rw [y7g hn hp hm]
   ·rw [if_neg hcond]
    have hm:32∈x:=by
     by_cases hm:32∈x
     ·exact hm
     ·exact absurd (.inl (by rw [(z2l hm).2.2]; simp)) hcond
    rw [if_neg (by rintro (h | h); exact hcond (.inr h); exact hcond (.inl ((z7a hn hp (by omega) hkd hm).1 h)))]
    rw [hgood _ (i+1) (y6q hn hp hxl) d2,d1,hset,(z0h hm).1,if_pos (by have:=List.length_pos_iff.2 (z0h hm).2; simp; omega)]
    simp
  ·rw [if_pos hkd,hgood [] i hsh hi,hd,hmk,x2h (by omega) hkd]
theorem oneP {k:Nat} (hk:k=0∨k=1∨k=2∨k=3) {R:Bs→CRd→Option (zm×Int×Int)} {c:zm} {mk:Bs→zm} (i:Nat) (hi:i≤Ls.length)
  (hbad:∀ i,R [] (qi.mk Ls e ((i:Nat):Int) true)=some (errC i)) (hmk:mk []=c) (hset:∀ w,setC k c w=if w.length=2 then some (mk (w.getD 1 [])) else none)
  (hgood:∀ w i,w.length≤1000000→i≤Ls.length→R w (qi.mk Ls e ((i:Nat):Int) false)=some (rdC e (Ls.drop i) (k+1) i (mk w))) :
  (kk (qi.mk Ls e (i:Int) false) (kdL.getD k []) (decide (k≠3))).bind (fun r=>R r.1 r.2)=some (rdC e (Ls.drop i) k i c):=by
 cases hd:Ls.drop i with
 | nil =>
  rw [w1z hn hp i hd hi]
  simp only [Option.bind_some]
  by_cases h3:k=3
  ·rw [decide_eq_false (not_not_intro h3),hgood [] i (by simp) hi,hd]
   simp only [rdC]
   rw [if_neg (by omega),if_neg (by omega)]
  ·rw [decide_eq_true h3,hbad]
   simp only [rdC]
   rw [if_neg (by omega)]
 | cons x L =>
  obtain ⟨d1,d2,d3⟩:=y9j hn hp hd
  have hxl:=hp x d3
  rw [w10 hn hp hd k (by omega)]
  simp only [Option.bind_some]
  by_cases hkd:kd (qc x)=k
  ·rw [y7l (by omega) hkd,if_neg (not_not_intro hkd)]
   by_cases hcond:[]∈vp x∨(L=[]∧e=false)∨(vp x).length≠1
   ·rw [if_pos hcond,hbad]
    by_cases hm:32∈x
    ·rcases hcond with h | h | h
     ·rw [if_pos (.inr ((z7a hn hp (by omega) hkd hm).2 h))]
     ·rw [if_pos (.inl h)]
     ·split
      ·rfl
      ·rw [hset,(z0h hm).1,if_neg (by simp; omega)]
    ·split
     ·rfl
     ·rw [y7g hn hp hm]
   ·rw [if_neg hcond]
    have hm:32∈x:=by
     by_cases hm:32∈x
     ·exact hm
     ·exact absurd (.inl (by rw [(z2l hm).2.2]; simp)) hcond
    have hlen:(vp x).length=1:=by
     by_cases h:(vp x).length=1
     ·exact h
     ·exact absurd (.inr (.inr h)) hcond
    rw [if_neg (by rintro (h | h); exact hcond (.inr (.inl h)); exact hcond (.inl ((z7a hn hp (by omega) hkd hm).1 h)))]
    have hts:=y6q hn hp hxl
    obtain ⟨y,hy⟩:=List.length_eq_one_iff.1 hlen
    rw [hset,(z0h hm).1,hy,if_pos (by simp)]
    rw [hy] at hts
    show R y _=_
    rw [hgood y (i+1) (hts.2 y (by simp)) d2,d1]
    rfl
  ·rw [if_pos hkd]
   by_cases h3:k=3
   ·rw [decide_eq_false (not_not_intro h3),hgood [] i (by simp) hi,hd,hmk,x2h (by omega) hkd]
   ·rw [decide_eq_true h3,hbad,x2j (by omega) hkd]
theorem M_eq (a b c d:Bs) (au:List Bs) (i:Nat) (hi:i≤Ls.length) (hc:ClB (zm.mk a b c d au [] 0 0)):pM a b c d au (qi.mk Ls e (i:Int) false)=some (rdC e (Ls.drop i) 5 i (zm.mk a b c d au [] 0 0)):=
 x3c hn hp (k:=5) (.inr rfl) (R:=fun w s=>pT a b c d au w s) (mk:=fun w=>zm.mk a b c d au w 0 0) i hi (fun i=>x6q a b c d au [] Ls e i) rfl (fun w=>rfl) fun w i hw hi=>T_eq hn hp a b c d au w i hi ⟨hc.id,hc.subject,hc.issuer,hc.parent,hc.aud,hw⟩
theorem F_eq (a b c d:Bs) (i:Nat) (hi:i≤Ls.length) (hc:ClB (zm.mk a b c d [] [] 0 0)):pF a b c d (qi.mk Ls e (i:Int) false)=some (rdC e (Ls.drop i) 4 i (zm.mk a b c d [] [] 0 0)):=
 x3c hn hp (k:=4) (.inl rfl) (R:=fun w s=>pM a b c d w s) (mk:=fun w=>zm.mk a b c d w [] 0 0) i hi (fun i=>x6s a b c d [] Ls e i) rfl (fun w=>rfl) fun w i hw hi=>M_eq hn hp a b c d w i hi ⟨hc.id,hc.subject,hc.issuer,hc.parent,hw,hc.sc⟩
theorem P_eq (a b c:Bs) (i:Nat) (hi:i≤Ls.length) (hc:ClB (zm.mk a b c [] [] [] 0 0)):pP a b c (qi.mk Ls e (i:Int) false)=some (rdC e (Ls.drop i) 3 i (zm.mk a b c [] [] [] 0 0)):=
 oneP hn hp (k:=3) (by omega) (R:=fun w s=>pF a b c w s) (mk:=fun w=>zm.mk a b c w [] [] 0 0) i hi (fun i=>x6u a b c [] Ls e i) rfl (fun w=>rfl) fun w i hw hi=>F_eq hn hp a b c w i hi ⟨hc.id,hc.subject,hc.issuer,hw,hc.aud,hc.sc⟩
theorem I_eq (a b:Bs) (i:Nat) (hi:i≤Ls.length) (hc:ClB (zm.mk a b [] [] [] [] 0 0)):pI a b (qi.mk Ls e (i:Int) false)=some (rdC e (Ls.drop i) 2 i (zm.mk a b [] [] [] [] 0 0)):=
 oneP hn hp (k:=2) (by omega) (R:=fun w s=>pP a b w s) (mk:=fun w=>zm.mk a b w [] [] [] 0 0) i hi (fun i=>x6r a b [] Ls e i) rfl (fun w=>rfl) fun w i hw hi=>P_eq hn hp a b w i hi ⟨hc.id,hc.subject,hw,hc.parent,hc.aud,hc.sc⟩
theorem S_eq (a:Bs) (i:Nat) (hi:i≤Ls.length) (hc:ClB (zm.mk a [] [] [] [] [] 0 0)):pS a (qi.mk Ls e (i:Int) false)=some (rdC e (Ls.drop i) 1 i (zm.mk a [] [] [] [] [] 0 0)):=
 oneP hn hp (k:=1) (by omega) (R:=fun w s=>pI a w s) (mk:=fun w=>zm.mk a w [] [] [] [] 0 0) i hi (fun i=>x6t a [] Ls e i) rfl (fun w=>rfl) fun w i hw hi=>I_eq hn hp a w i hi ⟨hc.id,hw,hc.issuer,hc.parent,hc.aud,hc.sc⟩
theorem D_eq (i:Nat) (hi:i≤Ls.length):pD (qi.mk Ls e (i:Int) false)=some (rdC e (Ls.drop i) 0 i (zm.mk [] [] [] [] [] [] 0 0)):=
 oneP hn hp (k:=0) (by omega) (R:=fun w s=>pS w s) (mk:=fun w=>zm.mk w [] [] [] [] [] 0 0) i hi (fun i=>w8n [] Ls e i) rfl (fun w=>rfl) fun w i hw hi=>S_eq hn hp w i hi ⟨hw,by simp,by simp,by simp,y29,y29⟩
end
def rdT (t:Bs):zm×Int×Int:=if 4000 < t.length then (kf,0,2) else rdC (lnS t).2 (lnS t).1 0 0 kf
theorem w1e (t:Bs) (hl:t.length≤1000000):z81 t=some (rdT t):=by
 unfold z81 rdT
 by_cases h:4000 < t.length
 ·rw [if_pos (by simp; omega),if_pos h]; rfl
 ·rw [if_neg (by simp; omega),if_neg h,w2l t hl]
  simp only [Option.bind_some]
  show pD (qi.mk (lnS t).1 (lnS t).2 0 false)=_
  have h1:(lnS t).1.length≤10000∧∀ x,x∈(lnS t).1→x.length≤10000:=by
   have hw:=Ze 10 t
   have hp:=Yw 10 t
   unfold lnS
   split
   ·exact ⟨by simp; omega,fun x hx=>by have:=hp x ((List.dropLast_sublist _).subset hx); omega⟩
   ·exact ⟨by simp only; omega,fun x hx=>by have:=hp x hx; omega⟩
  exact D_eq h1.1 h1.2 0 (Nat.zero_le _)
theorem w1d (t:Bs) (hl:t.length≤1000000):z91 t=some (rdT t):=by
 unfold z91 rdT
 by_cases h:4000 < t.length
 ·rw [if_pos (by simp; omega),if_pos h]; rfl
 ·rw [if_neg (by simp; omega),if_neg h]
  have hw:=Ze 10 t
  have hp:=Yw 10 t
  have hb:=splB 10 t
  have ht:=x0w (spl 10 t) (z4h 10 t) t rfl
  have hkey:t=txT (lnS t).2 (lnS t).1∧(lnS t).1.length≤5000∧(∀ x,x∈(lnS t).1→10 ∉ x∧x.length≤10000)∧((lnS t).2=false→(lnS t).1.getLast?≠some []):=by
   unfold lnS
   by_cases hlast:(spl 10 t).getLast?=some []
   ·rw [if_pos hlast] at ht ⊢
    exact ⟨ht,by simp; omega,fun x hx=>⟨hb x ((List.dropLast_sublist _).subset hx),by have:=hp x ((List.dropLast_sublist _).subset hx); omega⟩,fun h=>by cases h⟩
   ·rw [if_neg hlast] at ht ⊢
    exact ⟨ht,by simp only; omega,fun x hx=>⟨hb x hx,by have:=hp x hx; omega⟩,fun _=>hlast⟩
  obtain ⟨k1,k2,k3,k4⟩:=hkey
  have:=refC (lnS t).2 (lnS t).1 0 0 kf (by omega) (by omega) ke k3 k4 (by rw [← k1]; omega)
  rw [← k1] at this
  exact this
theorem x2i (e:Bool):∀ (L:List Bs) (k i:Nat) (c:zm),ClB c→(∀ x,x∈L→x.length≤10000)→ClB (rdC e L k i c).1
 | [],k,i,c,hc,_=>by
  rw [rdC]
  split
  ·unfold finC; split
   ·exact ke
   ·exact hc
  ·exact ke
 | x::L,k,i,c,hc,hL=>by
  rw [rdC]
  split
  ·exact ke
  ·split
   ·exact ke
   ·rename_i c' hs
    exact x2i e L _ _ c' (x1r hc (y23 (by have:=hL x (by simp); omega)) hs) fun y hy=>hL y (by simp [hy])
theorem w1f (t:Bs):ClB (rdT t).1:=by
 unfold rdT
 split
 ·exact ke
 ·refine x2i _ _ _ _ _ ke fun x hx => ?_
  have hp:=Yw 10 t
  unfold lnS at hx
  split at hx
  ·have:=hp x ((List.dropLast_sublist _).subset hx); omega
  ·have:=hp x hx; omega
theorem w7g (c:UInt8):(encL (IntKind.wrap .i32 (c.toNat:Int))).length≤4:=by
 have:=xl (fun c=>decide ((encL (IntKind.wrap .i32 (c.toNat:Int))).length≤4)) (by decide +kernel) c
 exact of_decide_eq_true this
theorem Wm (l:Bs) (a b:Int) (h:0≤a∧a≤b∧b≤(l.length:Int)):Ok (sub? l a b) fun r=>(r.length:Int)=b - a:=by
 unfold sub?
 rw [if_pos h]
 exact yx (by simp; omega)
theorem x6l {k:Int} {s:zt} (h:SB k s) (hk:k≤1000000) (t v:Bs) (ht:t.length≤100000) (hv:v.length≤100000) :
  Ok (z5r s t v) fun r=>r.1.length≤t.length+v.length+4∧SB (k+3) r.2:=by
 unfold z5r
 refine ww (fun _=>yx ⟨by simp only; omega,h.mono (by omega)⟩) (fun h0 => ?_)
 simp only [Bool.or_eq_true,decide_eq_true_eq,not_or] at h0
 have ht0:0 < t.length:=by cases hq:t with | nil=>exact absurd hq h0.1 | cons _ _=>simp
 have hv0:0 < v.length:=by cases hq:v with | nil=>exact absurd hq h0.2 | cons _ _=>simp
 refine yc (Zg h (by omega) _ (by omega)) fun r5 h5=>yc (Zg h5.2 (by omega) _ (by omega)) fun r7 h7 => ?_
 have b5:=h5.1.2.1 (by omega)
 have b7:=h7.1.2.1 (by omega)
 have c5:=h5.1.1
 have c7:=h7.1.1
 have hat:Ok (at? v r7.1) fun _=>True:=by
  unfold at?
  rw [if_pos c7,List.getElem?_eq_getElem (by omega)]
  exact ⟨_,rfl,trivial⟩
 refine yc hat fun x9 _=>yc (Zg h7.2 (by omega) 3 (by omega)) fun r11 h11 => ?_
 have he:=w7g x9
 have hw:wr (r5.1+1)=r5.1+1:=vh (by omega)
 have hS:SB (k+3) r11.2:=h11.2.mono (by omega)
 rw [hw]
 refine ww (fun _ => ?_) (fun _=>ww (fun _ => ?_) (fun _ => ?_))
 ·refine yc (Wm t _ _ ⟨by omega,by omega,by omega⟩) fun l14 h14=>ok_g (by omega) (yc (Wm t _ _ ⟨by omega,by omega,by omega⟩) fun l17 h17=>ok_g (by simp; omega) (yx ⟨by simp; omega,hS⟩))
 ·refine yc (Wm t _ _ ⟨by omega,by omega,by omega⟩) fun l14 h14=>ok_g (by omega) (yc (Wm t _ _ ⟨by omega,by omega,by omega⟩) fun l17 h17=>ok_g (by simp; omega) (yx ⟨by simp; omega,hS⟩))
 ·refine yc (Wm t _ _ ⟨by omega,by omega,by omega⟩) fun l14 h14=>yc (Wm t _ _ ⟨by omega,by omega,by omega⟩) fun l17 h17=>ok_g (by omega) (yx ⟨by simp; omega,hS⟩)
structure CSm (c:zm):Prop where
 id:c.Id.length≤10
 subject:c.Subject.length≤10
 issuer:c.Issuer.length≤10
 parent:c.Parent.length≤10
 aud:c.Audience.length≤5∧∀ x,x∈c.Audience→x.length≤1000
 sc:c.Scopes.length≤5∧∀ x,x∈c.Scopes→x.length≤1000
 fr:0≤c.From∧c.From≤1000
 tu:0≤c.To∧c.To≤1000
theorem CSm.wb {c:zm} (h:CSm c):CWB c:=
 ⟨by have:=h.id; omega,by have:=h.subject; omega,by have:=h.issuer; omega,by have:=h.parent; omega,⟨by have:=h.aud.1; omega,fun x hx=>by have:=h.aud.2 x hx; omega⟩,⟨by have:=h.sc.1; omega,fun x hx=>by have:=h.sc.2 x hx; omega⟩,by have:=h.fr; omega,by have:=h.tu; omega⟩
theorem CSm.len {c:zm} (h:CSm c):(txC c).length≤12000:=by
 have h1:=y0r 1000 [32] c.Audience h.aud.2
 have h2:=y0r 1000 [32] c.Scopes h.sc.2
 have h3:c.Audience.length * (1000+([32]:Bs).length)≤5 * 1001:=Nat.mul_le_mul h.aud.1 (by simp)
 have h4:c.Scopes.length * (1000+([32]:Bs).length)≤5 * 1001:=Nat.mul_le_mul h.sc.1 (by simp)
 have h5:=(y4x c.From (by have:=h.fr; omega)).1
 have h6:=(y4x c.To (by have:=h.tu; omega)).1
 have a1:=h.id; have a2:=h.subject; have a3:=h.issuer; have a4:=h.parent
 have hp:(parL c).length≤20:=by
  unfold parL
  split
  ·simp; omega
  ·simp
 have hf:(y5z c).length≤5020:=by
  unfold y5z
  split
  ·simp; omega
  ·simp
 have hm:(mayL c).length≤5020:=by
  unfold mayL
  split
  ·simp; omega
  ·simp
 rw [x72 h.wb]
 unfold hdC
 simp; omega
theorem ue {x:Bs} {l:List Bs} (h:x∈l) (hl:l.all fun y=>decide (y.length≤10)):x.length≤10:=by
 have:=List.all_eq_true.1 hl x h
 simpa using this
theorem x2e {k:Int} {s:zt} (h:SB k s) (hk:k≤100000):Ok (z5q s) fun r=>CSm r.1∧SB (k+20) r.2:=by
 unfold z5q
 refine yc (jv h (by omega) _ ⟨by simp,by simp⟩) fun r2 h2=>yc (jv h2.2 (by omega) _ ⟨by simp,by simp⟩) fun r4 h4=>yc (jv h4.2 (by omega) _ ⟨by simp,by simp⟩) fun r6 h6=>yc (jv h6.2 (by omega) _ ⟨by simp,by simp⟩) fun r8 h8=>yc (Zg h8.2 (by omega) _ (by omega)) fun r10 h10 => ?_
 refine yc (w8y _ _ ⟨h10.1.1,by have:=h10.1.2.1 (by omega); simp; omega⟩) fun x12 h12=>yc (y7k h10.2 (by omega)) fun r14 h14 => ?_
 have hsh:Sh r14.1:=⟨by have:=h14.1.1; omega,fun x hx=>by have:=h14.1.2 x hx; omega⟩
 rw [y8a r14.1 hsh]
 simp only [Option.bind_some]
 refine yc (um h14.2 (by omega) _ ⟨by simp,by simp⟩) fun r18 h18=>yc (um h18.2 (by omega) _ ⟨by simp,by simp⟩) fun r20 h20 => ?_
 have b18:0≤r18.1∧r18.1≤100:=by
  have:=h18.1
  simp only [List.mem_cons,List.not_mem_nil,or_false] at this
  omega
 have b20:0≤r20.1∧r20.1≤200:=by
  have:=h20.1
  simp only [List.mem_cons,List.not_mem_nil,or_false] at this
  omega
 have e:wr (r18.1+r20.1)=r18.1+r20.1:=vh (by omega)
 rw [e]
 refine yx ⟨⟨ue h2.1 (by decide),ue h4.1 (by decide),ue h6.1 (by decide),ue h8.1 (by decide),?_,⟨?_,fun x hx => ?_⟩,by simp only; omega,by simp only; omega⟩,h20.2.mono (by omega)⟩
 ·simp only [List.mem_cons,List.not_mem_nil,or_false] at h12
  rcases h12 with rfl | rfl | rfl | rfl | rfl <;> simp
 ·have:=y76 r14.1
  have:=h14.1.1
  simp only; omega
 ·have:=((x2z r14.1 x).1 hx).1
  have:=h14.1.2 x this
  omega
theorem x2f (old new:Bs):∀ (k:Nat) (s:Bs),(Lib.replaceK old new k s).length≤s.length+k * new.length
 | 0,s=>by simp [Lib.replaceK]
 | k+1,s=>by
  rw [Lib.replaceK]
  split
  ·omega
  ·have ih:=x2f old new k (s.drop ((Lib.index s old).toNat+old.length))
   rw [List.length_append,List.length_append,List.length_take]
   rw [List.length_drop] at ih
   rw [Nat.succ_mul]
   omega
theorem w08 (s old new:Bs):(Lib.replace s old new 1).length≤s.length+new.length:=by
 unfold Lib.replace
 split
 ·omega
 ·have h1:=x2f old new (Lib.replaceNum s old 1) s
  have h2:Lib.replaceNum s old 1≤1:=by
   unfold Lib.replaceNum
   split
   ·omega
   ·simp
  have h3:=Nat.mul_le_mul_right new.length h2
  omega
theorem w78 {k:Int} {s:zt} (h:SB k s) (hk:k≤10000):Ok (y0f s) fun r=>r.1.length≤48500∧SB (k+100) r.2:=by
 unfold y0f
 refine yc (x2e h (by omega)) fun r2 h2 => ?_
 rw [y77 h2.1.wb]
 simp only [Option.bind_some]
 refine yc (um h2.2 (by omega) _ ⟨by simp,by simp⟩) fun r6 h6 => ?_
 have b6:0≤r6.1∧r6.1≤2:=by
  have:=h6.1
  simp only [List.mem_cons,List.not_mem_nil,or_false] at this
  omega
 refine ok_g (by omega) (z8j (I:=fun j (q:Bs×(List Int)×Int)=>j≤2→(((j=0→q.1.length≤12000)∧(j=1→q.1.length≤24100)∧(j=2→q.1.length≤48300))∧SB (k+21+3 * (j:Int)) ⟨q.2.1,q.2.2⟩)) _ _ _ (fun _=>⟨⟨fun _=>h2.1.len,by omega,by omega⟩,by simpa using h6.2.mono (by omega)⟩) ?_ ?_)
 ·rintro j ⟨t8,c9,c10⟩ _ hj hI
  have hj2:j < 2:=by omega
  obtain ⟨i1,i2⟩:=hI (by omega)
  simp only at i1 i2
  unfold y5v
  have ht0:t8.length≤50000:=by
   have hc:j=0∨j=1:=by omega
   omega
  refine yc (x6l i2 (by omega) t8 _ (by omega) (by simp)) fun r27 h27=>yx fun _=>⟨?_,h27.2.mono (by omega)⟩
  have:=h27.1
  simp only [List.length_cons,List.length_nil] at this
  have hc:j=0∨j=1:=by omega
  simp only; omega
 ·rintro ⟨t8,c9,c10⟩ hI
  have hr:0+r6.1.toNat≤2:=by omega
  obtain ⟨i1,i2⟩:=hI hr
  simp only at i1 i2
  have ht8:t8.length≤48300:=by
   have hc:r6.1.toNat=0∨r6.1.toNat=1∨r6.1.toNat=2:=by omega
   rcases hc with hc | hc | hc <;> (rw [hc] at i1; omega)
  unfold y5w z64
  refine yc (ua i2 (by omega) _ (by omega)) fun r14 h14=>ww (fun _ => ?_) (fun _=>yx ⟨by simp only; omega,h14.mono (by omega)⟩)
  refine yc (jv h14 (by omega) _ ⟨by simp,by simp⟩) fun r17 h17=>yc (jv h17.2 (by omega) _ ⟨by simp,by simp⟩) fun r19 h19 => ?_
  have l17:1≤r17.1.length:=by
   have:=h17.1
   simp only [List.mem_cons,List.not_mem_nil,or_false] at this
   rcases this with h | h | h | h | h <;> (rw [h]; simp)
  have l19:=ue h19.1 (by decide)
  have:=w08 t8 r17.1 r19.1
  unfold y32
  rw [if_pos ⟨show t8.length≤1000000 by omega,l17,by omega⟩]
  exact yx ⟨by simp only; omega,h19.2.mono (by omega)⟩

def badB (c:UInt8):Bool:=decide ((c.toNat:Int) < 33) || decide (126 < (c.toNat:Int))
def secF (s:Bs):Int:=if s=[]∨s.any badB=true then 3 else if 100 < s.length then 2 else 0
theorem x65 (s:Bs):(s.all fun c => !badB c) = !s.any badB:=by
 induction s with
 | nil=>rfl
 | cons c s ih=>simp only [List.all_cons,List.any_cons,ih,Bool.not_or]
theorem w0g (s:Bs) (h:s.length≤1000000000):z8q s=some (secF s):=by
 unfold z8q
 rw [if_pos h,uv (p:=fun _ c => !badB c) (r0:=3) (e:=if s=[] then 3 else if 100 < s.length then 2 else 0) ?_ s 0 fun j x _ _ => ?_]
 ·rw [z0u (fun c => !badB c),x65]
  unfold secF
  cases s.any badB
  ·by_cases h1:s=[] <;> simp [h1]
  ·simp
 ·unfold y2k
  by_cases h1:s=[]
  ·simp [h1]
  ·by_cases h2:100 < s.length
   ·have:(100:Int) < s.length:=by omega
    simp [h1,h2,this]
   ·have:¬ (100:Int) < s.length:=by omega
    simp [h1,h2,this]
 ·unfold y2j z34 badB
  by_cases h1:(x.toNat:Int) < 33
  ·simp [h1]
  ·by_cases h2:126 < (x.toNat:Int) <;> simp [h1,h2]
theorem x7m (s:Bs) (h:s.length≤1000000000):Qf s 33=some (!s.any badB):=by
 unfold Qf
 rw [if_pos h,uv (p:=fun _ c => !badB c) (r0:=false) (e:=true) rfl s 0 fun j x _ _ => ?_]
 ·rw [z0u (fun c => !badB c),x65]
  cases s.any badB <;> rfl
 ·unfold y45 z6i badB
  by_cases h1:(x.toNat:Int) < 33
  ·simp [h1]
  ·by_cases h2:126 < (x.toNat:Int) <;> simp [h1,h2]
theorem w0f (s:Bs) (h:s.length≤1000000000):z9q s=some (secF s):=by
 unfold z9q
 have hJ:∀ b,secF s=(if b=true then 3 else if 100 < s.length then 2 else 0)→z2p s b=some (secF s):=by
  intro b hb
  rw [hb]
  unfold z2p
  cases b
  ·by_cases h2:100 < s.length
   ·have:(100:Int) < s.length:=by omega
    simp [h2,this]
   ·have:¬ (100:Int) < s.length:=by omega
    simp [h2,this]
  ·rfl
 by_cases h1:s=[]
 ·rw [if_pos (by simpa using h1)]
  exact hJ true (by unfold secF; simp [h1])
 ·rw [if_neg (by simpa using h1),x7m s h]
  refine hJ _ ?_
  unfold secF
  cases s.any badB <;> simp [h1]

structure SgB (l:List ya):Prop where
 len:l.length≤1000
 key:∀ x,x∈l→x.Id.length≤1000∧x.Secret.length≤1000
def z5w (l:List ya) (k:Nat) (x:ya):Bool:=decide (0 < k) && match l[k - 1]? with | some y=>decide (x.From < y.From) | none=>false
def sg1 (l:List ya) (k:Nat) (x:ya):Int:=
 if (!keyP x.Id)=true then 5 else if ((l.take k).any fun o=>decide (o.Id=x.Id))=true then 6 else if secF x.Secret≠0 then secF x.Secret
 else if (outP x.From 0 x.To || decide (x.Until < x.To) || decide (345686400000 < x.Until))=true then 1 else if z5w l k x=true then 7 else 0
def sgF (l:List ya):Int:=if 50 < l.length then 2 else feI (sg1 l) 0 l
theorem x58 (l:List ya) (h:l.length≤1000000000) (p:ya→Option Bool) (q:ya→Bool) (hp:∀ x,p x=some (q x)):z88 l p=some (l.any q):=
 z3k l q h fun x _=>hp x
theorem x96 (l:List ya) (hl:SgB l) (k:Nat) (x:ya) (hx:l[k]?=some x):z8p l (k:Int)=some (sg1 l k x):=by
 have hk:=jw hx
 have hb:=hl.key x (List.mem_of_getElem? hx)
 have hn:=hl.len
 unfold z8p sg1
 rw [Qt,hx]
 simp only [Option.bind_some]
 rw [xw x.Id (by omega),z4d l k (by omega)]
 simp only [Option.bind_some]
 rw [x58 (l.take k) (by rw [List.length_take]; omega) (fun a0=>z8o a0 x) (fun o=>decide (o.Id=x.Id)) (fun _=>rfl),w0g x.Secret (by omega),y7p]
 simp only [Option.bind_some]
 have hlate:(if decide (0 < (k:Int))=true then (at? l (wr ((k:Int) - 1))).bind fun (x21:ya)=>Wh (decide (x.From < x21.From)) else Wh false)=some (if z5w l k x=true then 7 else 0):=by
  unfold z5w Wh
  by_cases h0:0 < k
  ·obtain ⟨y,hy⟩:∃ y,l[k - 1]?=some y:=⟨_,List.getElem?_eq_getElem (by omega)⟩
   have e1:at? l (wr ((k:Int) - 1))=some y:=by
    rw [vh (by omega),show (k:Int) - 1=((k - 1:Nat):Int) by omega,Qt]; exact hy
   rw [if_pos (by simpa using h0),e1,hy]
   by_cases h1:x.From < y.From <;> simp [h0,h1]
  ·rw [if_neg (by simpa using h0)]
   simp [h0]
 rw [hlate]
 cases keyP x.Id
 ·rfl
 ·cases ((l.take k).any fun o=>decide (o.Id=x.Id))
  ·by_cases h2:secF x.Secret=0
   ·simp only [h2,Bool.not_true,Bool.false_eq_true,if_false,ne_eq,not_true_eq_false,decide_false]
    cases (outP x.From 0 x.To || decide (x.Until < x.To) || decide (345686400000 < x.Until)) <;> rfl
   ·simp [h2]
  ·rfl
theorem x95 (l:List ya) (hl:SgB l) (k:Nat) (x:ya) (hx:l[k]?=some x):y07 l k x=if sg1 l k x≠0 then some (.inr (sg1 l k x)) else some (.inl ()):=by
 have hk:=jw hx
 have hb:=hl.key x (List.mem_of_getElem? hx)
 have hn:=hl.len
 unfold y07 sg1
 rw [xt x.Id (by omega),z4d l k (by omega)]
 simp only [Option.bind_some]
 rw [x58 (l.take k) (by rw [List.length_take]; omega) (fun a0=>z9p a0 x) (fun o=>decide (o.Id=x.Id)) (fun _=>rfl),w0f x.Secret (by omega),z6f]
 simp only [Option.bind_some]
 have hlate:(if decide (0 < (k:Int))=true then (at? l ((k:Int) - 1)).bind fun (x21:ya)=>z0k (decide (x.From < x21.From)) else z0k false)=if z5w l k x=true then some (.inr 7) else some (.inl ()):=by
  unfold z5w z0k
  by_cases h0:0 < k
  ·obtain ⟨y,hy⟩:∃ y,l[k - 1]?=some y:=⟨_,List.getElem?_eq_getElem (by omega)⟩
   have e1:at? l ((k:Int) - 1)=some y:=by
    rw [show (k:Int) - 1=((k - 1:Nat):Int) by omega,Qt]; exact hy
   rw [if_pos (by simpa using h0),e1,hy]
   by_cases h1:x.From < y.From <;> simp [h0,h1]
  ·rw [if_neg (by simpa using h0)]
   simp [h0]
 rw [hlate,Bool.not_not]
 cases keyP x.Id
 ·rfl
 ·cases ((l.take k).any fun o=>decide (o.Id=x.Id))
  ·by_cases h2:secF x.Secret=0
   ·simp only [h2,Bool.not_true,Bool.false_eq_true,if_false,ne_eq,not_true_eq_false,decide_false]
    cases (outP x.From 0 x.To || decide (x.Until < x.To) || decide (345686400000 < x.Until))
    ·cases z5w l k x <;> rfl
    ·rfl
   ·simp [h2]
  ·rfl
theorem x6j (l:List ya) (hl:SgB l):z4w l=some (sgF l):=by
 have hn:=hl.len
 unfold z4w sgF
 by_cases h1:50 < l.length
 ·rw [if_pos (by simp; omega),if_pos h1]
 ·rw [if_neg (by simp; omega),if_neg h1,if_pos (by omega)]
  refine z0r rfl l 0 fun j x _ hx => ?_
  have hx:l[j]?=some x:=by simpa using hx
  unfold y2m
  rw [x96 l hl j x hx]
  simp only [Option.bind_some]
  by_cases h2:sg1 l j x=0 <;> simp [h2]
theorem x5t (l:List ya) (hl:SgB l):z5h l=some (sgF l):=by
 have hn:=hl.len
 unfold z5h sgF
 by_cases h1:50 < l.length
 ·rw [if_pos (by simp; omega),if_pos h1]
 ·rw [if_neg (by simp; omega),if_neg h1,if_pos (by omega)]
  exact z0r rfl l 0 fun j x _ hx=>x95 l hl j x (by simpa using hx)

section
variable (l:List ya) (hl:SgB l) (id secret:Bs) (a long life:Int) (hid:id.length≤1000) (hse:secret.length≤1000)
include hl hid hse
end
theorem w0e {k:Int} {s:zt} (h:SB k s) (hk:k≤1000000):Ok (z96 s) fun r=>r.1.length≤1000∧SB (k+1) r.2:=by
 unfold z96 Zh
 rw [if_pos (by decide)]
 simp only [Option.bind_some]
 refine yc (jv h (by omega) _ ⟨by simp,by simp⟩) fun r hr=>yx ⟨?_,hr.2⟩
 have h1:=hr.1
 simp only [List.mem_cons,List.not_mem_nil,or_false] at h1
 simp only
 rcases h1 with h1 | h1 | h1 | h1 | h1 | h1 | h1 | h1 | h1 <;> rw [h1] <;> first | decide | (rw [Lib.repeatL_length]; decide)
theorem w02 {k:Int} {s:zt} (h:SB k s) (hk:k≤1000000):Ok (z99 s) fun r=>SgB r.1∧SB (k+20) r.2:=by
 unfold z99
 refine yc (y3l h (by omega) 0 3 (by omega)) fun r2 h2 => ?_
 have hsub:Ok (sub? ([[115,49],[115,50],[115,51]]:List Bs) 0 r2.1) fun l=>l.length≤3∧∀ x,x∈l→x.length≤2:=by
  unfold sub?
  rw [if_pos (by simp; omega)]
  refine yx ⟨by simp; omega,fun x hx => ?_⟩
  have:=List.mem_of_mem_take hx
  have:=List.mem_of_mem_drop this
  simp at this
  rcases this with rfl | rfl | rfl <;> decide
 refine yc hsub fun l4 h4=>ok_g (by omega) ?_
 refine z4l (fun (j:Nat) (q:Int×(List Int)×Int×(List ya))=>SB (k+1+4 * (j:Int)) ⟨q.2.1,q.2.2.1⟩∧q.2.2.2.length≤j∧∀ x,x∈q.2.2.2→x.Id.length≤1000∧x.Secret.length≤1000) l4 0 _ ⟨by simpa using h2.2,by simp,by simp⟩ ?_ ?_
 ·rintro j x ⟨v6,c7,c8,l9⟩ _ hx ⟨q1,q2,q3⟩
  simp only at q1 q2 q3
  have hx:l4[j]?=some x:=by simpa using hx
  have hj:=jw hx
  have hxl:=h4.2 x (List.mem_of_getElem? hx)
  unfold y5k
  refine yc (um q1 (by omega) _ ⟨by simp,by simp⟩) fun r16 h16=>yc (jv h16.2 (by omega) _ ⟨by simp,by simp⟩) fun r18 h18=>yc (um h18.2 (by omega) _ ⟨by simp,by simp⟩) fun r20 h20=>yc (um h20.2 (by omega) _ ⟨by simp,by simp⟩) fun r22 h22=>ok_g (by simp only; omega) (yx ⟨h22.2.mono (by omega),by simp; omega,fun y hy => ?_⟩)
  rcases List.mem_append.1 hy with hy | hy
  ·exact q3 y hy
  ·simp only [List.mem_singleton] at hy
   subst hy
   refine ⟨by simp only; omega,?_⟩
   show r18.1.length≤1000
   have:=h18.1
   simp only [List.mem_cons,List.not_mem_nil,or_false] at this
   rcases this with h | h | h <;> rw [h] <;> decide
 ·rintro ⟨v6,c7,c8,l9⟩ ⟨q1,q2,q3⟩
  simp only at q1 q2 q3
  exact yx ⟨⟨by simp only; omega,q3⟩,q1.mono (by omega)⟩
theorem x92 {k:Int} {s:zt} (h:SB k s) (hk:k≤100000):Ok (z95 s) fun r=>SgB r.1∧SB (k+40) r.2:=by
 unfold z95
 refine yc (w02 h (by omega)) fun r2 h2 => ?_
 obtain ⟨hb,hs2⟩:=h2
 have hn:=hb.len
 have hset:∀ (i:Nat) (y:ya),y.Id.length≤1000∧y.Secret.length≤1000→∀ l,SgB l→SgB (l.set i y):=fun i y hy l hl=>⟨by simpa using hl.len,fun x hx=>by
  rcases List.mem_or_eq_of_mem_set hx with hx | rfl
  ·exact hl.key x hx
  ·exact hy⟩
 have hJ2:∀ b c a,SB (k+21) ⟨c,a⟩→(b=true→0 < r2.1.length)→Ok (z3d r2 b c a) fun r=>SgB r.1∧SB (k+40) r.2:=by
  intro b c a hs hb0
  unfold z3d z0q
  refine ww (fun hb1 => ?_) (fun _=>yx ⟨hb,hs.mono (by omega)⟩)
  have hpos:=hb0 hb1
  refine yc (Zg hs (by omega) _ (by omega)) fun r13 h13 => ?_
  have h14:=h13.1.2.1 (by omega)
  have hat:Ok (at? r2.1 r13.1) fun x=>x∈r2.1:=by
   unfold at?
   rw [if_pos h13.1.1,List.getElem?_eq_getElem (by omega)]
   exact ⟨_,rfl,List.getElem_mem _⟩
  refine yc hat fun x15 hx15=>yc (Zg h13.2 (by omega) _ (by omega)) fun r17 h17 => ?_
  have hx:=hb.key x15 hx15
  refine ww (fun _ => ?_) (fun _=>ww (fun _ => ?_) (fun _ => ?_))
  ·refine yc (jv h17.2 (by omega) _ ⟨by simp,by simp⟩) fun r20 h20=>yx ⟨hset _ ⟨r20.1,x15.Secret,x15.From,x15.To,x15.Until⟩ ⟨?_,hx.2⟩ _ hb,h20.2.mono (by omega)⟩
   show r20.1.length≤1000
   have:=h20.1
   simp only [List.mem_cons,List.not_mem_nil,or_false] at this
   rcases this with h | h | h <;> rw [h] <;> decide
  ·exact yc (w0e h17.2 (by omega)) fun r23 h23=>yx ⟨hset _ ⟨x15.Id,r23.1,x15.From,x15.To,x15.Until⟩ ⟨hx.1,h23.1⟩ _ hb,h23.2.mono (by omega)⟩
  ·exact yc (z4m h17.2 (by omega) _ _ (by omega)) fun r25 h25=>yc (z4m h25.2 (by omega) _ _ (by omega)) fun r27 h27=>yx ⟨hset _ ⟨x15.Id,x15.Secret,r25.1,r27.1,x15.Until⟩ hx _ (hset _ ⟨x15.Id,x15.Secret,r25.1,x15.To,x15.Until⟩ hx _ hb),h27.2.mono (by omega)⟩
 refine ww (fun h => ?_) (fun _=>hJ2 _ _ _ (hs2.mono (by omega)) fun h=>by cases h)
 exact yc (ua hs2 (by omega) _ (by omega)) fun r6 h6=>hJ2 _ _ _ (h6.mono (by omega)) fun _=>by simpa using h
end Go.Proofs.YtndabcepiekebaaGreatDoor
