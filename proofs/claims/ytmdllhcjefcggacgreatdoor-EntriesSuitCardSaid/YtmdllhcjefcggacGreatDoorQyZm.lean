/- Plain: queries of both sides, read and written. -/
import Derived.Test.YtmdllhcjefcggacGreatDoorMfZm
namespace Go.Proofs.YtmdllhcjefcggacGreatDoor
set_option linter.unusedVariables false
set_option maxRecDepth 20000
def hx (c:UInt8):Nat:=if 48≤c.toNat∧c.toNat≤57 then c.toNat - 48 else if 97≤c.toNat∧c.toNat≤102 then c.toNat - 87 else if 65≤c.toNat∧c.toNat≤70 then c.toNat - 55 else 99
def isH (c:UInt8):Bool:=decide (hx c < 16)
theorem x32 (c:UInt8) (k v:Nat) (hv:v < 16):Yz 16 16 8 1152921504606846976 k (c.toNat:Int) false (v:Int)=if isH c then some (.inl (false,((v * 16+hx c:Nat):Int))) else some (.inr (0,2)):=by
 show Yz 16 16 8 1152921504606846976 0 (c.toNat:Int) false (v:Int)=_
 have:=je (fun c=>(List.range 16).all fun v=>decide (Yz 16 16 8 1152921504606846976 0 (c.toNat:Int) false ((v:Nat):Int)=if isH c then some (.inl (false,((v * 16+hx c:Nat):Int))) else some (.inr (0,2)))) (by decide +kernel) c
 exact of_decide_eq_true ((List.all_eq_true.1 this) v (by simpa using hv))
theorem pu2 (a b:UInt8):z32 [a,b] 16 8=some (if isH a && isH b then (((16 * hx a+hx b:Nat):Int),0) else (0,5)):=by
 have e1:z4g [a,b] 16 8=forL (fun (k:Nat) (x:Int) (s:Bool×Int)=>Yz 16 16 8 1152921504606846976 k x s.1 s.2) (fun (s:Bool×Int)=>z5e [a,b] s.1 s.2) 0 [(a.toNat:Int),(b.toNat:Int)] (false,0):=rfl
 have e2:z4g [a,b] 16 8=some (if isH a && isH b then (((16 * hx a+hx b:Nat):Int),0) else (0,2)):=by
  rw [e1]
  show (Yz 16 16 8 1152921504606846976 0 (a.toNat:Int) false ((0:Nat):Int)).bind _=_
  rw [x32 a 0 0 (by omega)]
  cases ha:isH a
  ·rfl
  ·have hla:hx a < 16:=of_decide_eq_true ha
   simp only [if_true,Option.bind_some,after]
   show (Yz 16 16 8 1152921504606846976 1 (b.toNat:Int) false ((0 * 16+hx a:Nat):Int)).bind _=_
   rw [x32 b 1 _ (by omega)]
   cases hb:isH b
   ·rfl
   ·simp only [if_true,Option.bind_some,after,Bool.and_self]
    show z5e [a,b] false _=_
    unfold z5e z5c
    simp only [Bool.false_eq_true,if_false]
    congr 3; omega
 unfold z32
 rw [e2]
 cases isH a && isH b
 ·rfl
 ·rfl
def pl (plus:Bool) (c:UInt8):UInt8:=if c=43∧plus=true then 32 else c
def h2 (a b:UInt8):UInt8:=UInt8.ofNat (16 * hx a+hx b)
def dec (plus:Bool):Bs→Option Bs
 | []=>some []
 | [c]=>if c=37 then none else some [pl plus c]
 | [c,d]=>if c=37 then none else (dec plus [d]).map (pl plus c :: ·)
 | c::a::b::r=>if c=37 then (if isH a && isH b then (dec plus r).map (h2 a b :: ·) else none) else (dec plus (a::b::r)).map (pl plus c :: ·)
theorem xn (plus:Bool) {c:UInt8} (hc:c≠37) (r:Bs):dec plus (c::r)=(dec plus r).map (pl plus c :: ·):=by
 match r with
 | []=>simp [dec,hc]
 | [d] =>
  have:dec plus [c,d]=if c=37 then none else (dec plus [d]).map (pl plus c :: ·):=rfl
  rw [this,if_neg hc]
 | a::b::r =>
  have:dec plus (c::a::b::r)=if c=37 then (if isH a && isH b then (dec plus r).map (h2 a b :: ·) else none) else (dec plus (a::b::r)).map (pl plus c :: ·):=rfl
  rw [this,if_neg hc]
theorem kw (plus:Bool) (a b:UInt8) (r:Bs):dec plus (37::a::b::r)=if isH a && isH b then (dec plus r).map (h2 a b :: ·) else none:=by
 have:dec plus (37::a::b::r)=if (37:UInt8)=37 then (if isH a && isH b then (dec plus r).map (h2 a b :: ·) else none) else (dec plus (a::b::r)).map (pl plus 37 :: ·):=rfl
 rw [this,if_pos rfl]
theorem z6i (plus:Bool) {r:Bs} (hr:r.length < 2):dec plus (37::r)=none:=by
 match r with
 | []=>simp [dec]
 | [d]=>simp [dec]
theorem w4a (plus:Bool):∀ (n:Nat) (s d:Bs),s.length≤n→dec plus s=some d→d.length≤s.length:=by
 intro n
 induction n with
 | zero =>
  intro s d h hd
  obtain rfl:s=[]:=List.length_eq_zero_iff.1 (by omega)
  cases hd; simp
 | succ n ih =>
  intro s d h hd
  match s with
  | []=>cases hd; simp
  | c::r =>
   simp only [List.length_cons] at h ⊢
   by_cases hc:c=37
   ·subst hc
    match r with
    | []=>rw [z6i plus (by simp)] at hd; cases hd
    | [x]=>rw [z6i plus (by simp)] at hd; cases hd
    | a::b::r =>
     rw [kw] at hd
     split at hd
     ·cases hq:dec plus r with
      | none=>rw [hq] at hd; cases hd
      | some e =>
       rw [hq] at hd
       cases hd
       simp only [List.length_cons] at h ⊢
       have:=ih r e (by omega) hq
       omega
     ·cases hd
   ·rw [xn plus hc] at hd
    cases hq:dec plus r with
    | none=>rw [hq] at hd; cases hd
    | some e =>
     rw [hq] at hd
     cases hd
     have:=ih r e (by omega) hq
     simp only [List.length_cons]; omega
theorem w3b (c:UInt8):z38 (c.toNat:Int)=some (isH c):=by
 have:=je (fun c=>decide (z38 (c.toNat:Int)=some (isH c))) (by decide +kernel) c
 exact of_decide_eq_true this
theorem z0e {s:Bs} {i:Nat} {c:UInt8} {r:Bs} (h:s.drop i=c::r):at? s (i:Int)=some c∧i+r.length+1=s.length:=by
 have h1:=congrArg List.length h
 simp only [List.length_drop,List.length_cons] at h1
 refine ⟨?_,by omega⟩
 rw [z2y]
 have:(s.drop i)[0]?=some c:=by rw [h]; rfl
 simpa using this
theorem Yd {s:Bs} {i:Nat} {c:UInt8} {r:Bs} (h:s.drop i=c::r):s.drop (i+1)=r:=by
 rw [← List.drop_drop,h]; rfl
def unH:Bs→Bool
 | a::b::_=>isH a && isH b
 | _=>false
theorem y6o {s:Bs} {i:Nat} {c:UInt8} {r:Bs} (h:s.drop i=c::r) (hl:s.length≤100000000):Qy s (i:Int)=some (unH r):=by
 obtain ⟨_,h1⟩:=z0e h
 have h2:=Yd h
 unfold Qy z0x
 have w1:wr ((i:Int)+1)=((i+1:Nat):Int):=by rw [wa (by omega)]; omega
 have w2:wr ((i:Int)+2)=((i+2:Nat):Int):=by rw [wa (by omega)]; omega
 rw [w1,w2]
 match r with
 | []=>rw [if_neg (by simp at h1 ⊢; omega)]; rfl
 | [x]=>rw [if_neg (by simp at h1 ⊢; omega)]; rfl
 | a::b::t =>
  have h3:=Yd h2
  rw [if_pos (by simp only [List.length_cons] at h1; simp; omega),(z0e h2).1]
  simp only [Option.bind_some,w3b]
  rw [show i+1+1=i+2 from rfl] at h3
  rw [show unH (a::b::t)=(isH a && isH b) from rfl]
  cases isH a
  ·rfl
  ·simp only [if_true,(z0e h3).1,Option.bind_some,Bool.true_and]
theorem y8h {s:Bs} {i:Nat} {c a b:UInt8} {t:Bs} (h:s.drop i=c::a::b::t) (hl:s.length≤100000000) (hh:(isH a && isH b)=true):z35 s (i:Int)=some ((h2 a b).toNat:Int):=by
 have hd:=Yd h
 obtain ⟨_,h1⟩:=z0e h
 simp only [List.length_cons] at h1
 have w1:wr ((i:Int)+1)=((i+1:Nat):Int):=by rw [wa (by omega)]; omega
 have w3:wr ((i:Int)+3)=((i+3:Nat):Int):=by rw [wa (by omega)]; omega
 unfold z35
 rw [w1,w3]
 have hs:sub? s ((i+1:Nat):Int) ((i+3:Nat):Int)=some [a,b]:=by
  unfold sub?
  rw [if_pos (by omega)]
  simp only [Int.toNat_natCast]
  rw [hd,show i+3 - (i+1)=2 by omega]; rfl
 rw [hs]
 simp only [Option.bind_some]
 rw [pu2,hh]
 have ha:hx a < 16:=by simp [isH] at hh; exact hh.1
 have hb:hx b < 16:=by simp [isH] at hh; exact hh.2
 simp only [if_true,Option.bind_some,ne_eq,not_true_eq_false,decide_false,Bool.false_eq_true,if_false]
 first | rfl | (congr 1; unfold IntKind.wrap h2; simp [IntKind.bits,IntKind.signed])
theorem z0g (l:List Int) (n:Int) (h:l.length+1≤1000000000):Za l n=some (0,l++[n]):=by
 unfold Za
 rw [if_pos h]
theorem w38 (s:Bs) (plus:Bool) (hl:s.length≤100000000):∀ (n i:Nat) (x:Bs),s.length - i≤n→i≤s.length→x.length≤i →
  iter (fun (q:Int×(List Int))=>jv s plus q.1 q.2) ((i:Int),yn x)=some (match dec plus (s.drop i) with | some d=>(x++d,true) | none=>([],false)):=by
 intro n
 induction n with
 | zero =>
  intro i x h hi hx
  obtain rfl:i=s.length:=by omega
  rw [Ya (body:=fun (q:Int×(List Int))=>jv s plus q.1 q.2) (s:=((s.length:Int),yn x)) (r:=(x,true))]
  ·simp [dec]
  ·unfold jv z7n
   rw [if_neg (by simp),if_pos (y7m x),z3c]; rfl
 | succ n ih =>
  intro i x h hi hx
  cases hd:s.drop i with
  | nil =>
   have:s.length≤i:=by simpa using hd
   obtain rfl:i=s.length:=by omega
   have e:=ih s.length x (by omega) (by omega) hx
   rw [List.drop_length] at e
   exact e
  | cons c r =>
   obtain ⟨g1,g2⟩:=z0e hd
   have g3:=Yd hd
   have step:∀ y:UInt8,y=pl plus c→c≠37→jv s plus (i:Int) (yn x)=some (.inl (((i+1:Nat):Int),yn (x++[y])))→iter (fun (q:Int×(List Int))=>jv s plus q.1 q.2) ((i:Int),yn x)=some (match dec plus (c::r) with | some d=>(x++d,true) | none=>([],false)):=fun y hy hc hs=>by
    rw [Wu (body:=fun (q:Int×(List Int))=>jv s plus q.1 q.2) (s:=((i:Int),yn x)) hs,ih (i+1) _ (by omega) (by omega) (by simp; omega),g3,xn plus hc,hy]
    cases dec plus r <;> simp
   have hw:wr ((i:Int)+1)=((i+1:Nat):Int):=by rw [wa (by omega)]; omega
   have hlen:(yn x).length+1≤1000000000:=by rw [Zm]; omega
   have hin:decide ((i:Int) < (s.length:Int))=true:=by simp; omega
   by_cases hp:c=43∧plus=true
   ·refine step 32 (by unfold pl; rw [if_pos hp]) (by rw [hp.1]; decide) ?_
    unfold jv Yl
    rw [if_pos hin,g1]
    simp only [Option.bind_some]
    rw [if_pos (by rw [hp.1,hp.2]; rfl),z0g _ _ hlen]
    simp only [Option.bind_some,hw,uw]; rfl
   ·have hp':¬ ((decide ((c.toNat:Int)=43)) && plus)=true:=by
     intro h
     simp only [Bool.and_eq_true,decide_eq_true_eq] at h
     exact hp ⟨UInt8.toNat_inj.1 (by have:=h.1; simp; omega),h.2⟩
    by_cases hc:c=37
    ·have hn:¬ decide ((c.toNat:Int)≠37)=true:=by rw [hc]; decide
     have hu:=y6o hd hl
     have hbad:unH r=false→dec plus (c::r)=none→iter (fun (q:Int×(List Int))=>jv s plus q.1 q.2) ((i:Int),yn x)=some (match dec plus (c::r) with | some d=>(x++d,true) | none=>([],false)):=fun hb hdn=>by
      rw [hb] at hu
      rw [hdn]
      refine Ya (body:=fun (q:Int×(List Int))=>jv s plus q.1 q.2) (s:=((i:Int),yn x)) ?_
      show jv s plus (i:Int) (yn x)=_
      unfold jv
      rw [if_pos hin,g1]
      simp only [Option.bind_some]
      rw [if_neg hp',if_neg hn,hu]
      rfl
     rcases r with _ | ⟨a,_ | ⟨b,t⟩⟩
     ·exact hbad rfl (by rw [hc,z6i plus (by simp)])
     ·exact hbad rfl (by rw [hc,z6i plus (by simp)])
     ·cases hh:isH a && isH b
      ·exact hbad hh (by rw [hc,kw,hh]; rfl)
      ·have hu:Qy s (i:Int)=some (isH a && isH b):=hu
       have hun:=y8h hd hl hh
       simp only [List.length_cons] at g2
       have g4:=Yd (Yd g3)
       have hs:jv s plus (i:Int) (yn x)=some (.inl (((i+3:Nat):Int),yn (x++[h2 a b]))):=by
        unfold jv Yl
        rw [if_pos hin,g1]
        simp only [Option.bind_some]
        rw [if_neg hp',if_neg hn,hu,hh]
        simp only [Option.bind_some,Bool.not_true,Bool.false_eq_true,if_false,hun]
        rw [z0g _ _ hlen]
        simp only [Option.bind_some,uw]
        rw [wa (n:=(i:Int)+2) (by omega),wa (by omega)]
        congr 3
       rw [Wu (body:=fun (q:Int×(List Int))=>jv s plus q.1 q.2) (s:=((i:Int),yn x)) hs,ih (i+3) _ (by omega) (by omega) (by simp; omega),show s.drop (i+3)=t from g4,hc,kw,hh]
       simp only [if_true]
       cases dec plus t <;> simp
    ·refine step c (by unfold pl; rw [if_neg hp]) hc ?_
     unfold jv Yl
     rw [if_pos hin,g1]
     simp only [Option.bind_some]
     rw [if_neg hp',if_pos (by
      have:(c.toNat:Int)≠37:=fun h=>hc (UInt8.toNat_inj.1 (by simp; omega))
      simpa using this),z0g _ _ hlen]
     simp only [Option.bind_some,hw,uw]; rfl
theorem x38 (s:Bs) (plus:Bool) (hl:s.length≤100000000):Qz s plus=some (match dec plus s with | some d=>(d,true) | none=>([],false)):=by
 unfold Qz
 have:=w38 s plus hl s.length 0 [] (by omega) (by omega) (by simp)
 simpa [yn] using this
def uns:Bs→Option (List (UInt8×Bool))
 | []=>some []
 | [c]=>if c=37 then none else some [(c,true)]
 | [c,d]=>if c=37 then none else (uns [d]).map ((c,true) :: ·)
 | c::a::b::r=>if c=37 then (if isH a && isH b then (uns r).map ((h2 a b,false) :: ·) else none) else (uns (a::b::r)).map ((c,true) :: ·)
theorem z6x {c:UInt8} (hc:c≠37) (r:Bs):uns (c::r)=(uns r).map ((c,true) :: ·):=by
 match r with
 | []=>simp [uns,hc]
 | [d] =>
  have:uns [c,d]=if c=37 then none else (uns [d]).map ((c,true) :: ·):=rfl
  rw [this,if_neg hc]
 | a::b::r =>
  have:uns (c::a::b::r)=if c=37 then (if isH a && isH b then (uns r).map ((h2 a b,false) :: ·) else none) else (uns (a::b::r)).map ((c,true) :: ·):=rfl
  rw [this,if_neg hc]
theorem z6w (a b:UInt8) (r:Bs):uns (37::a::b::r)=if isH a && isH b then (uns r).map ((h2 a b,false) :: ·) else none:=by
 have:uns (37::a::b::r)=if (37:UInt8)=37 then (if isH a && isH b then (uns r).map ((h2 a b,false) :: ·) else none) else (uns (a::b::r)).map ((37,true) :: ·):=rfl
 rw [this,if_pos rfl]
theorem y8f {r:Bs} (hr:r.length < 2):uns (37::r)=none:=by
 match r with
 | []=>simp [uns]
 | [d]=>simp [uns]
theorem z98 {P:Bs→Prop} (h0:P []) (h1:∀ r:Bs,uns (37::r)=none→(∀ plus,dec plus (37::r)=none)→unH r=false→P (37::r)) (h2_:∀ (a b:UInt8) (t:Bs),(isH a && isH b)=true→P t→P (37::a::b::t)) (h3:∀ (c:UInt8) (r:Bs),c≠37→P r→P (c::r)):∀ s,P s:=by
 have key:∀ (n:Nat) (s:Bs),s.length≤n→P s:=by
  intro n
  induction n with
  | zero=>intro s h; obtain rfl:s=[]:=List.length_eq_zero_iff.1 (by omega); exact h0
  | succ n ih =>
   intro s h
   match s with
   | []=>exact h0
   | c::r =>
    simp only [List.length_cons] at h
    by_cases hc:c=37
    ·subst hc
     match r with
     | []=>exact h1 _ (y8f (by simp)) (fun p=>z6i p (by simp)) rfl
     | [d]=>exact h1 _ (y8f (by simp)) (fun p=>z6i p (by simp)) rfl
     | a::b::t =>
      cases hh:isH a && isH b
      ·exact h1 _ (by rw [z6w,hh]; rfl) (fun p=>by rw [kw,hh]; rfl) hh
      ·exact h2_ a b t hh (ih t (by simp only [List.length_cons] at h; omega))
    ·exact h3 c r hc (ih r (by omega))
 exact fun s=>key s.length s (Nat.le_refl _)
theorem x4a (s:Bs):dec false s=(uns s).map (List.map (·.1)):=by
 refine z98 (P:=fun s=>dec false s=(uns s).map (List.map (·.1))) rfl (fun r h1 h2 _=>by rw [h1,h2]; rfl) (fun a b t hh ih => ?_) (fun c r hc ih => ?_) s
 ·rw [kw,z6w,hh,if_pos rfl,if_pos rfl,ih]
  cases uns t <;> simp
 ·rw [xn false hc,z6x hc,ih]
  have hpl:pl false c=c:=by unfold pl; rw [if_neg (by simp)]
  rw [hpl]
  cases uns r <;> simp
theorem y8g (s:Bs):∀ u,uns s=some u→u.length≤s.length:=by
 refine z98 (P:=fun s=>∀ u,uns s=some u→u.length≤s.length) (fun u h=>by cases h; simp) (fun r h1 h2 _ u h=>by rw [h1] at h; cases h) (fun a b t hh ih u h => ?_) (fun c r hc ih u h => ?_) s
 ·rw [z6w,hh,if_pos rfl] at h
  cases hq:uns t with
  | none=>rw [hq] at h; cases h
  | some e=>rw [hq] at h; cases h; have:=ih e hq; simp only [List.length_cons]; omega
 ·rw [z6x hc] at h
  cases hq:uns r with
  | none=>rw [hq] at h; cases h
  | some e=>rw [hq] at h; cases h; have:=ih e hq; simp only [List.length_cons]; omega
def mkU (p:UInt8×Bool):wm:=wm.mk (p.1.toNat:Int) p.2
theorem x5o (s:Bs):∀ (l:List wm),l.length+s.length≤100000000 →
  iter (fun (q:Bs×(List wm))=>ku q.1 q.2) (s,l)=some (match uns s with | some u=>(l++u.map mkU,true) | none=>([],false)):=by
 refine z98 (P:=fun s=>∀ (l:List wm),l.length+s.length≤100000000 →
  iter (fun (q:Bs×(List wm))=>ku q.1 q.2) (s,l)=some (match uns s with | some u=>(l++u.map mkU,true) | none=>([],false))) ?_ ?_ ?_ ?_ s
 ·intro l h
  rw [Ya (body:=fun (q:Bs×(List wm))=>ku q.1 q.2) (s:=([],l)) (r:=(l,true)) rfl]
  simp [uns]
 ·intro r h1 _ hb l h
  rw [h1]
  refine Ya (body:=fun (q:Bs×(List wm))=>ku q.1 q.2) (s:=(37::r,l)) ?_
  have hne:decide ((37:UInt8)::r≠[])=true:=by simp
  show ku (37::r) l=_
  unfold ku
  rw [if_pos hne]
  simp only [List.getElem?_cons_zero,Option.bind_some]
  rw [if_neg (by decide)]
  match r with
  | []=>rw [if_pos (by simp)]
  | [d]=>rw [if_pos (by simp)]
  | a::b::t =>
   have hs13:sub? ((37:UInt8)::a::b::t) 1 3=some [a,b]:=by
    unfold sub?
    rw [if_pos (by simp only [List.length_cons]; omega)]; rfl
   have hb:(isH a && isH b)=false:=hb
   rw [if_neg (by simp only [List.length_cons]; simp; omega),hs13]
   simp only [Option.bind_some]
   rw [pu2,hb]; rfl
 ·intro a b t hh ih l h
  have hne:decide ((37:UInt8)::a::b::t≠[])=true:=by simp
  have hlen3:¬ decide ((((37:UInt8)::a::b::t).length:Int) < 3)=true:=by simp only [List.length_cons]; simp; omega
  have hs13:sub? ((37:UInt8)::a::b::t) 1 3=some [a,b]:=by
   unfold sub?
   rw [if_pos (by simp only [List.length_cons]; omega)]; rfl
  have ha:hx a < 16:=by simp [isH] at hh; exact hh.1
  have hb2:hx b < 16:=by simp [isH] at hh; exact hh.2
  simp only [List.length_cons] at h
  have hs:ku ((37:UInt8)::a::b::t) l=some (.inl (t,l++[wm.mk ((h2 a b).toNat:Int) false])):=by
   have hs3:sub? ((37:UInt8)::a::b::t) 3 (((37:UInt8)::a::b::t).length:Int)=some t:=by
    unfold sub?
    rw [if_pos (by simp only [List.length_cons]; omega),List.take_of_length_le (by simp only [List.length_drop]; omega)]; rfl
   unfold ku
   rw [if_pos hne]
   simp only [List.getElem?_cons_zero,Option.bind_some]
   rw [if_neg (by decide),if_neg hlen3,hs13]
   simp only [Option.bind_some]
   rw [pu2,hh]
   simp only [if_true,Option.bind_some,ne_eq,not_true_eq_false,decide_false,Bool.false_eq_true,if_false]
   rw [if_pos (by omega),hs3]
   first | rfl | (simp only [Option.bind_some]; congr 5; unfold IntKind.wrap h2; simp [IntKind.bits,IntKind.signed])
  rw [Wu (body:=fun (q:Bs×(List wm))=>ku q.1 q.2) (s:=(37::a::b::t,l)) hs,ih _ (by simp; omega),z6w,hh,if_pos rfl]
  cases uns t <;> simp [mkU]
 ·intro c r hc ih l h
  simp only [List.length_cons] at h
  have hne:decide (c::r≠[])=true:=by simp
  have hs:ku (c::r) l=some (.inl (r,l++[wm.mk (c.toNat:Int) true])):=by
   have hs1:sub? (c::r) 1 ((c::r).length:Int)=some r:=by
    unfold sub?
    rw [if_pos (by simp only [List.length_cons]; omega),List.take_of_length_le (by simp only [List.length_drop]; omega)]; rfl
   have hcn:(c.toNat:Int)≠37:=fun h=>hc (UInt8.toNat_inj.1 (by simp; omega))
   unfold ku
   rw [if_pos hne]
   simp only [List.getElem?_cons_zero,Option.bind_some]
   rw [if_pos (by simpa using hcn),if_pos (by omega),hs1]
   rfl
  rw [Wu (body:=fun (q:Bs×(List wm))=>ku q.1 q.2) (s:=(c::r,l)) hs,ih _ (by simp; omega),z6x hc]
  cases uns r <;> simp [mkU]
theorem y36 (s:Bs) (h:s.length≤100000000):Wh s=some (match uns s with | some u=>(u.map mkU,true) | none=>([],false)):=by
 unfold Wh
 have:=x5o s [] (by simpa using h)
 simpa using this
def sg1 (st:List Bs) (x:Bs):List Bs:=if x=[46] then st else if x=[46,46] then st.dropLast else st++[x]
def sgL (st:List Bs) (x:Bs):List Bs:=if x=[46] then st++[[]] else if x=[46,46] then st.dropLast++[[]] else st++[x]
def fwS:List Bs→List Bs→List Bs
 | st,[]=>st
 | st,[x]=>sgL st x
 | st,x::y::l=>fwS (sg1 st x) (y::l)
def bkS:List Bs→Nat→List Bs→List Bs
 | [],_,out=>out
 | x::r,k,out=>if x=[46] then bkS r k out else if x=[46,46] then bkS r (k+1) out else if 0 < k then bkS r (k - 1) out else bkS r 0 (out++[x])
def bkF (x:Bs) (r:List Bs):List Bs:=if x=[46] then bkS r 0 [[]] else if x=[46,46] then bkS r 1 [[]] else bkS r 0 [x]
theorem x3l:∀ (p:List Bs) (x:Bs) (st:List Bs),fwS st (p++[x])=sgL (p.foldl sg1 st) x
 | [],x,st=>rfl
 | [y],x,st=>rfl
 | y::z::p,x,st=>x3l (z::p) x (sg1 st y)
theorem y3q:∀ (r:List Bs) (k:Nat) (out:List Bs),bkS r k out=out++((r.reverse.foldl sg1 []).take ((r.reverse.foldl sg1 []).length - k)).reverse
 | [],k,out=>by simp [bkS]
 | x::r,k,out=>by
  have e:(x::r).reverse.foldl sg1 []=sg1 (r.reverse.foldl sg1 []) x:=by simp [List.foldl_append]
  rw [e]
  generalize hF:r.reverse.foldl sg1 []=F
  have ih:=fun k out=>y3q r k out
  simp only [hF] at ih
  unfold bkS sg1
  by_cases h1:x=[46]
  ·rw [if_pos h1,if_pos h1,ih]
  ·rw [if_neg h1,if_neg h1]
   by_cases h2:x=[46,46]
   ·rw [if_pos h2,if_pos h2,ih,List.dropLast_eq_take,List.length_take,List.take_take]
    congr 3
    omega
   ·rw [if_neg h2,if_neg h2]
    by_cases h3:0 < k
    ·rw [if_pos h3,ih]
     congr 2
     rw [List.length_append,List.length_singleton,List.take_append_of_le_length (by omega)]
     congr 1; omega
    ·rw [if_neg h3,ih]
     obtain rfl:k=0:=by omega
     rw [Nat.sub_zero,Nat.sub_zero,List.take_length,List.take_length]
     simp
theorem w4z (p:List Bs) (x:Bs):(bkF x p.reverse).reverse=fwS [] (p++[x]):=by
 rw [x3l]
 unfold bkF sgL
 split
 ·rw [y3q]; simp
 ·split
  ·rw [y3q]; simp [List.dropLast_eq_take]
  ·rw [y3q]; simp
theorem x74 {st:List Bs} {x y:Bs} (h:y∈sg1 st x):y∈st∨y=x:=by
 unfold sg1 at h
 split at h
 ·exact .inl h
 ·split at h
  ·exact .inl (List.dropLast_subset _ h)
  ·rcases List.mem_append.1 h with h | h
   ·exact .inl h
   ·exact .inr (by simpa using h)
theorem x72 {st:List Bs} {x y:Bs} (h:y∈sgL st x):y∈st∨y=x∨y=[]:=by
 unfold sgL at h
 split at h
 ·rcases List.mem_append.1 h with h | h
  ·exact .inl h
  ·exact .inr (.inr (by simpa using h))
 ·split at h
  ·rcases List.mem_append.1 h with h | h
   ·exact .inl (List.dropLast_subset _ h)
   ·exact .inr (.inr (by simpa using h))
  ·rcases List.mem_append.1 h with h | h
   ·exact .inl h
   ·exact .inr (.inl (by simpa using h))
theorem y94 (st:List Bs) (x:Bs):(sg1 st x).length≤st.length+1:=by
 unfold sg1
 split
 ·omega
 ·split
  ·simp; omega
  ·simp
theorem x73 (st:List Bs) (x:Bs):(sgL st x).length≤st.length+1:=by
 unfold sgL
 split
 ·simp
 ·split
  ·simp
  ·simp
theorem x3j {B:Nat}:∀ (l st:List Bs),(∀ y,y∈st→y.length≤B)→(∀ y,y∈l→y.length≤B)→∀ y,y∈fwS st l→y.length≤B
 | [],st,h1,_,y,h=>h1 y h
 | [x],st,h1,h2,y,h=>by
  rcases x72 h with h | rfl | rfl
  ·exact h1 y h
  ·exact h2 y (by simp)
  ·simp
 | x::z::l,st,h1,h2,y,h=>by
  refine x3j (z::l) (sg1 st x) (fun y h => ?_) (fun y h=>h2 y (by simp at h ⊢; exact .inr h)) y h
  rcases x74 h with h | rfl
  ·exact h1 y h
  ·exact h2 y (by simp)
theorem x3k:∀ (l st:List Bs),(fwS st l).length≤st.length+l.length
 | [],st=>by simp [fwS]
 | [x],st=>x73 st x
 | x::z::l,st=>by
  have h1:=x3k (z::l) (sg1 st x)
  have h2:=y94 st x
  show (fwS (sg1 st x) (z::l)).length≤_
  simp only [List.length_cons] at h1 ⊢
  omega
noncomputable def frU (c:UInt8):Bool:=decide (Zr (c.toNat:Int)=some true)
noncomputable def pcU (c:UInt8):Bs:=(Zq (c.toNat:Int)).getD []
theorem x5q (c:UInt8):Zr (c.toNat:Int)=some (frU c):=by
 have:=je (fun c=>decide (Zr (c.toNat:Int)=some (frU c))) (by decide +kernel) c
 exact of_decide_eq_true this
theorem z6v (c:UInt8):Zq (c.toNat:Int)=some (pcU c)∧(pcU c).length=3:=by
 have:=je (fun c=>decide (Zq (c.toNat:Int)=some (pcU c)∧(pcU c).length=3)) (by decide +kernel) c
 exact of_decide_eq_true this
theorem x5r (c:UInt8):Wi (c.toNat:Int)=some (pcU c):=by
 have:=je (fun c=>decide (Wi (c.toNat:Int)=some (pcU c))) (by decide +kernel) c
 exact of_decide_eq_true this
abbrev plL:Bs:=[97,98,99,100,101,102,103,104,105,106,107,108,109,110,111,112,113,114,115,116,117,118,119,120,121,122,65,66,67,68,69,70,71,72,73,74,75,76,77,78,79,80,81,82,83,84,85,86,87,88,89,90,48,49,50,51,52,53,54,55,56,57,45,46,95,126]
theorem x5n (c:UInt8):(encL (IntKind.wrap .i32 (c.toNat:Int))).length≤4∧(((encL (IntKind.wrap .i32 (c.toNat:Int))).all fun d=>plL.contains d) && decide ((c.toNat:Int) < 128))=frU c:=by
 have:=je (fun c=>decide ((encL (IntKind.wrap .i32 (c.toNat:Int))).length≤4∧(((encL (IntKind.wrap .i32 (c.toNat:Int))).all fun d=>plL.contains d) && decide ((c.toNat:Int) < 128))=frU c)) (by decide +kernel) c
 exact of_decide_eq_true this
noncomputable def nU (p:UInt8×Bool):Bs:=if p.2 || frU p.1 then [p.1] else pcU p.1
noncomputable def nrm (u:List (UInt8×Bool)):Bs:=u.flatMap nU
theorem y5r (p:UInt8×Bool):(nU p).length≤3:=by
 unfold nU
 split
 ·simp
 ·rw [(z6v p.1).2]; exact Nat.le_refl _
theorem x9z (u:List (UInt8×Bool)):(nrm u).length≤3 * u.length:=by
 induction u with
 | nil=>simp [nrm]
 | cons c s ih =>
  unfold nrm at ih ⊢
  have:=y5r c
  rw [List.flatMap_cons,List.length_append,List.length_cons]
  omega
theorem x93 (s:Bs) (hl:s.length≤100000000):∀ t:Bs,∀ (i:Nat) (x:Bs),s.drop i=t→i≤s.length→x.length≤i →
  iter (fun (q:Int×(List Int))=>ko s q.1 q.2) ((i:Int),yn x)=some (match uns t with | some u=>(x++nrm u,true) | none=>([],false)):=by
 refine z98 ?_ ?_ ?_ ?_
 ·intro i x hd hi hx
  have:s.length≤i:=by simpa using hd
  obtain rfl:i=s.length:=by omega
  rw [Ya (body:=fun (q:Int×(List Int))=>ko s q.1 q.2) (s:=((s.length:Int),yn x)) (r:=(x,true))]
  ·simp [uns,nrm]
  ·unfold ko z7m
   rw [if_neg (by simp),if_pos (y7m x),z3c]; rfl
 ·intro r h1 _ hb i x hd hi hx
  obtain ⟨g1,g2⟩:=z0e hd
  have hu:=y6o hd hl
  rw [hb] at hu
  rw [h1]
  refine Ya (body:=fun (q:Int×(List Int))=>ko s q.1 q.2) (s:=((i:Int),yn x)) ?_
  show ko s (i:Int) (yn x)=_
  unfold ko
  rw [if_pos (by simp; omega),g1]
  simp only [Option.bind_some]
  rw [if_neg (by decide),hu]
  rfl
 ·intro a b t hh ih i x hd hi hx
  obtain ⟨g1,g2⟩:=z0e hd
  have g3:=Yd hd
  have g4:=Yd (Yd g3)
  simp only [List.length_cons] at g2
  have hu:Qy s (i:Int)=some (isH a && isH b):=y6o hd hl
  have hun:=y8h hd hl hh
  have hlen:(yn x).length+1≤1000000000:=by rw [Zm]; omega
  have hs:ko s (i:Int) (yn x)=some (.inl (((i+3:Nat):Int),yn (x++nU (h2 a b,false)))):=by
   unfold ko z3j z0w
   rw [if_pos (by simp; omega),g1]
   simp only [Option.bind_some]
   rw [if_neg (by decide),hu,hh]
   simp only [Option.bind_some,Bool.not_true,Bool.false_eq_true,if_false,hun,x5q]
   have hw:wr (wr ((i:Int)+2)+1)=((i+3:Nat):Int):=by
    rw [wa (n:=(i:Int)+2) (by omega),wa (by omega)]; omega
   rw [hw]
   unfold nU
   cases frU (h2 a b)
   ·simp only [Bool.false_eq_true,if_false,Bool.or_false]
    rw [(z6v _).1]
    simp only [Option.bind_some]
    unfold z30
    rw [if_pos (by rw [Zm,(z6v _).2]; omega)]
    simp only [Option.bind_some,uw]
   ·simp only [if_true,Bool.or_true]
    rw [z0g _ _ hlen]
    simp only [Option.bind_some,uw]; rfl
  have hn:=y5r (h2 a b,false)
  rw [Wu (body:=fun (q:Int×(List Int))=>ko s q.1 q.2) (s:=((i:Int),yn x)) hs,ih (i+3) _ g4 (by omega) (by simp; omega),z6w,hh]
  simp only [if_true]
  cases uns t <;> simp [nrm]
 ·intro c r hc ih i x hd hi hx
  obtain ⟨g1,g2⟩:=z0e hd
  have g3:=Yd hd
  have hlen:(yn x).length+1≤1000000000:=by rw [Zm]; omega
  have hs:ko s (i:Int) (yn x)=some (.inl (((i+1:Nat):Int),yn (x++[c]))):=by
   unfold ko z0w
   rw [if_pos (by simp; omega),g1]
   simp only [Option.bind_some]
   rw [if_pos (by
    have:(c.toNat:Int)≠37:=fun h=>hc (UInt8.toNat_inj.1 (by simp; omega))
    simpa using this),z0g _ _ hlen]
   have hw:wr ((i:Int)+1)=((i+1:Nat):Int):=by rw [wa (by omega)]; omega
   simp only [Option.bind_some,hw,uw]; rfl
  rw [Wu (body:=fun (q:Int×(List Int))=>ko s q.1 q.2) (s:=((i:Int),yn x)) hs,ih (i+1) _ g3 (by omega) (by simp; omega),z6x hc]
  cases uns r <;> simp [nrm,nU]
theorem x92 (s:Bs) (hl:s.length≤100000000):z71 s=some (match uns s with | some u=>(nrm u,true) | none=>([],false)):=by
 unfold z71
 have:=x93 s hl s 0 [] (by simp) (by omega) (by simp)
 simpa [yn] using this
theorem x83 (k:Nat) (p:UInt8×Bool) (v:Bs) (h:v.length≤100000000):z10 k (mkU p) v=some (.inl (v++nU p)):=by
 obtain ⟨c,b⟩:=p
 have e1:strN [(c.toNat:Int)]=[c]:=z3c [c]
 have hJ:∀ b:Bool,Qd v (mkU (c,false)) b=some (.inl (v++if b then [c] else pcU c)):=fun b=>by
  unfold Qd z11 mkU
  cases b
  ·simp only [Bool.false_eq_true,if_false]
   rw [x5r]
   simp only [Option.bind_some]
   rw [if_pos (by rw [(z6v c).2]; omega)]
  ·simp only [if_true,e1]
   rw [if_pos (by simp; omega)]
 unfold z10
 cases b
 ·obtain ⟨q1,q2⟩:=x5n c
  have hcf:(mkU (c,false)).c_=(c.toNat:Int):=rfl
  have hpf:(mkU (c,false)).plain_=false:=rfl
  rw [hpf,hcf]
  simp only [Bool.false_eq_true,if_false]
  rw [z7i _ _ (by omega)]
  simp only [Option.bind_some]
  rw [hJ,hJ]
  unfold nU
  simp only [Bool.false_or]
  rw [← q2]
  cases (encL (IntKind.wrap .i32 (c.toNat:Int))).all fun d=>plL.contains d <;> simp
 ·have hpf:(mkU (c,true)).plain_=true:=rfl
  rw [hpf]
  simp only [if_true]
  unfold Qd z11 mkU
  simp only [if_true,e1]
  rw [if_pos (by simp; omega)]
  simp [nU]
theorem refL (F:Bs→Option (Bs×Int)):∀ (u:List (UInt8×Bool)) (k:Nat) (v:Bs),v.length+3 * u.length≤100000000 →
  forL (fun (k:Nat) (x:wm) (s:Bs)=>z10 k x s) F k (u.map mkU) v=F (v++nrm u)
 | [],k,v,h=>by simp [nrm,forL]
 | p::u,k,v,h=>by
  simp only [List.length_cons] at h
  have:=y5r p
  show (z10 k (mkU p) v).bind _=_
  rw [x83 k p v (by omega)]
  simp only [Option.bind_some,after]
  rw [refL F u (k+1) _ (by simp; omega)]
  simp [nrm]
theorem z7f (l:List Bs) (G:List Bs→Option (Bs×Int)) (hl:l.length≤10000000):∀ (n c:Nat) (out:List Bs),n < l.length→c+n≤100000000→out.length+n≤100000000 →
  back (fun (k:Nat) (x:Bs) (s:Int×(List Bs))=>Wz l k x s.1 s.2) (fun (s:Int×(List Bs))=>G s.2) l n ((c:Int),out)=G (bkS (l.take n).reverse c out)
 | 0,c,out,_,_,_=>by simp [back,bkS]
 | n+1,c,out,h1,h2,h3=>by
  obtain ⟨x,hx⟩:∃ x,l[n]?=some x:=⟨_,List.getElem?_eq_getElem (by omega)⟩
  have e:(l.take (n+1)).reverse=x::(l.take n).reverse:=by
   rw [List.take_add_one,hx]; simp
  rw [e]
  show (l[n]?).bind _=_
  rw [hx]
  simp only [Option.bind_some]
  have hk:decide ((n:Int)=wr ((l.length:Int) - 1))=false:=by
   rw [wa (by omega)]; simp; omega
  unfold bkS Wz z12
  rw [hk]
  simp only [Bool.false_eq_true,if_false]
  by_cases x1:x=[46]
  ·have x2:x≠[46,46]:=by rw [x1]; simp
   rw [if_pos (by simp [x1]),if_neg (by simpa using x2),if_pos x1]
   exact z7f l G hl n c out (by omega) (by omega) (by omega)
  ·by_cases x2:x=[46,46]
   ·rw [if_pos (by simp [x2]),if_pos (by simpa using x2),if_neg x1,if_pos x2,wa (by omega)]
    exact z7f l G hl n (c+1) out (by omega) (by omega) (by omega)
   ·rw [if_neg (by simp [x1,x2]),if_neg x1,if_neg x2]
    by_cases hc:0 < c
    ·rw [if_pos (by simp; omega),if_pos hc,wa (by omega),show ((c:Int) - 1)=((c - 1:Nat):Int) by omega]
     exact z7f l G hl n (c - 1) out (by omega) (by omega) (by omega)
    ·obtain rfl:c=0:=by omega
     rw [if_neg (by simp),if_neg hc,if_pos (by omega)]
     exact z7f l G hl n 0 (out++[x]) (by omega) (by omega) (by simp; omega)
theorem refB (p:List Bs) (x:Bs) (G:List Bs→Option (Bs×Int)) (hl:p.length≤1000000) (n:Nat) (hn:n=p.length+1) :
  back (fun (k:Nat) (x_1:Bs) (s:Int×(List Bs))=>Wz (p++[x]) k x_1 s.1 s.2) (fun (s:Int×(List Bs))=>G s.2) (p++[x]) n (0,[])=G (bkF x p.reverse):=by
 subst hn
 have e0:(p++[x]).length=p.length+1:=by simp
 show ((p++[x])[p.length]?).bind _=_
 rw [List.getElem?_append_right (Nat.le_refl _),Nat.sub_self]
 show (Wz (p++[x]) p.length x 0 []).bind _=_
 have hk:decide ((p.length:Int)=wr (((p++[x]).length:Int) - 1))=true:=by
  rw [e0,wa (by omega)]; simp
 have hB:=z7f (p++[x]) G (by omega) p.length
 have ht:(p++[x]).take p.length=p:=by simp
 rw [ht] at hB
 unfold Wz z12 bkF
 rw [hk]
 simp only [if_true]
 by_cases x1:x=[46]
 ·have x2:x≠[46,46]:=by rw [x1]; simp
  rw [if_pos (by simp [x1]),if_pos (by simp),if_neg (by simpa using x2),if_pos x1]
  exact hB 0 [[]] (by omega) (by omega) (by simp; omega)
 ·by_cases x2:x=[46,46]
  ·rw [if_pos (by simp [x2]),if_pos (by simp),if_pos (by simpa using x2),if_neg x1,if_pos x2,wa (by omega)]
   exact hB 1 [[]] (by omega) (by omega) (by simp; omega)
  ·rw [if_neg (by simp [x1,x2]),if_neg x1,if_neg x2,if_neg (by simp),if_pos (by simp)]
   exact hB 0 [x] (by omega) (by omega) (by simp; omega)
theorem prgL (tot:List Bs) (G:List Bs→Option (Bs×Int)) (ht:tot.length≤1000000):∀ (l:List Bs) (k:Nat) (st:List Bs),k+l.length=tot.length→st.length+l.length≤10000000 →
  forL (fun (k:Nat) (x:Bs) (s:(List Bs))=>z3s tot k x s) G k l st=G (fwS st l)
 | [],k,st,_,_=>rfl
 | x::l,k,st,h1,h2=>by
  simp only [List.length_cons] at h1 h2
  show (z3s tot k x st).bind _=_
  have hmx:max (wr ((st.length:Int) - 1)) 0=((st.length - 1:Nat):Int):=by
   rw [wa (by omega)]; omega
  have hk:decide ((k:Int)=wr ((tot.length:Int) - 1))=decide (l=[]):=by
   rw [wa (by omega)]
   cases l with
   | nil=>simp at h1; simp; omega
   | cons a l=>simp at h1; simp; omega
  have hdl:st.take (st.length - 1)=st.dropLast:=(List.dropLast_eq_take).symm
  unfold z3s z3t z03
  rw [hmx,hk,Int.toNat_natCast,hdl]
  have hg:(0:Int)≤((st.length - 1:Nat):Int)∧((st.length - 1:Nat):Int)≤(st.length:Int):=by omega
  match l with
  | [] =>
   simp only [decide_true,if_true]
   show _=G (sgL st x)
   unfold sgL
   by_cases x1:x=[46]
   ·rw [if_pos (by simpa using x1),if_pos x1,if_pos (by omega)]; rfl
   ·by_cases x2:x=[46,46]
    ·rw [if_neg (by simpa using x1),if_pos (by simpa using x2),if_neg x1,if_pos x2,if_pos hg,if_pos (by simp; omega)]; rfl
    ·rw [if_neg (by simpa using x1),if_neg (by simpa using x2),if_neg x1,if_neg x2,if_pos (by omega)]; rfl
  | y::l =>
   have hn:decide (y::l=[])=false:=by simp
   rw [hn]
   simp only [Bool.false_eq_true,if_false]
   show _=G (fwS (sg1 st x) (y::l))
   have hs1:=y94 st x
   rw [← prgL tot G ht (y::l) (k+1) (sg1 st x) (by simp only [List.length_cons] at h1 ⊢; omega) (by simp only [List.length_cons] at h2 ⊢; omega)]
   unfold sg1
   by_cases x1:x=[46]
   ·rw [if_pos (by simpa using x1),if_pos x1]; rfl
   ·by_cases x2:x=[46,46]
    ·rw [if_neg (by simpa using x1),if_pos (by simpa using x2),if_neg x1,if_pos x2,if_pos hg]; rfl
    ·rw [if_neg (by simpa using x1),if_neg (by simpa using x2),if_neg x1,if_neg x2,if_pos (by omega)]; rfl
theorem x9o (q:List Bs) (h:q.length≤100000) (hB:∀ y,y∈q→y.length≤9000):∃ j:Bs,j.length≤1000000000∧z7p q=some (47::j,0)∧∀ c:Int,z5r c q.reverse=some (47::j,0)∧j=Lib.join q [47]:=by
 have hj:=z45 9000 [47] q hB
 have hj2:(Lib.join q [47]).length≤100000 * 9001:=Nat.le_trans hj (Nat.mul_le_mul h (by simp))
 refine ⟨Lib.join q [47],by omega,?_,fun c=>⟨?_,rfl⟩⟩
 ·unfold z7p jl
  rw [if_pos (by omega)]
  simp only [Option.bind_some]
  rw [if_pos (by simp; omega)]; rfl
 ·unfold z5r z7y jl
  rw [if_pos (by simp; omega),List.reverse_reverse]
  simp only [Option.bind_some]
  rw [if_pos (by omega)]
  simp only [Option.bind_some]
  rw [if_pos (by simp; omega)]; rfl
noncomputable def npF (s:Bs):Bs×Int:=if pthB s then (match uns s with | some u=>(47::Lib.join (fwS [] (spl 47 ((nrm u).drop 1))) [47],0) | none=>([],9)) else ([],3)
theorem x7x (s:Bs):∃ p x,spl 47 s=p++[x]:=by
 have:=y9w 47 s
 exact ⟨(spl 47 s).dropLast,(spl 47 s).getLast this,(List.dropLast_concat_getLast this).symm⟩
theorem x9m (s:Bs) (hs:s.length≤100000):z79 s=some (npF s)∧z8g s=some (npF s):=by
 unfold z79 z8g npF
 rw [y5d s (by omega),x0r s (by omega)]
 simp only [Option.bind_some]
 cases hp:pthB s
 ·exact ⟨rfl,rfl⟩
 have hp1:(s.length:Int)≤1000:=by
  unfold pthB at hp
  simp only [Bool.and_eq_true,decide_eq_true_eq] at hp
  exact hp.1
 rw [x92 s (by omega),y36 s (by omega)]
 simp only [Bool.not_true,Bool.false_eq_true,if_false,if_true,Option.bind_some,ne_eq,not_true_eq_false,decide_false]
 cases hu:uns s with
 | none=>exact ⟨rfl,rfl⟩
 | some u =>
  simp only [Bool.not_true,Bool.false_eq_true,if_false]
  have hul:=y8g s u hu
  have hnl:=x9z u
  have hu1:1≤(nrm u).length:=by
   cases u with
   | nil =>
    exfalso
    cases s with
    | nil=>simp [pthB,Lib.hasPrefix] at hp
    | cons c r =>
     by_cases hc:c=37
     ·subst hc
      simp [pthB,Lib.hasPrefix] at hp
     ·rw [z6x hc] at hu
      cases hq:uns r with
      | none=>rw [hq] at hu; cases hu
      | some e=>rw [hq] at hu; cases hu
   | cons p u =>
    unfold nrm nU
    rw [List.flatMap_cons,List.length_append]
    have:1≤(if (p.2 || frU p.1)=true then [p.1] else pcU p.1).length:=by
     split
     ·simp
     ·rw [(z6v p.1).2]; omega
    omega
  have hsub:sub? (nrm u) 1 ((nrm u).length:Int)=some ((nrm u).drop 1):=by
   unfold sub?
   rw [if_pos (by omega),List.take_of_length_le (by simp)]; rfl
  have hsp:jk ((nrm u).drop 1) [47]=some (spl 47 ((nrm u).drop 1)):=by
   unfold jk
   rw [if_pos ⟨by simp; omega,by simp⟩,z3e]
  have hll:=z3f 47 ((nrm u).drop 1)
  simp only [List.length_drop] at hll
  have hpc:∀ y,y∈spl 47 ((nrm u).drop 1)→y.length≤9000:=fun y hy=>by
   have:=Qr 47 _ y hy
   simp only [List.length_drop] at this
   omega
  obtain ⟨p,x,hpx⟩:=x7x ((nrm u).drop 1)
  have hfl:=x3k (spl 47 ((nrm u).drop 1)) []
  simp only [List.length_nil] at hfl
  obtain ⟨j,hj1,hj2,hj3⟩:=x9o (fwS [] (spl 47 ((nrm u).drop 1))) (by omega) (x3j _ [] (by simp) hpc)
  have hjj:=(hj3 0).2
  constructor
  ·rw [hsub]
   simp only [Option.bind_some]
   rw [hsp]
   simp only [Option.bind_some]
   rw [if_pos (by omega),prgL _ _ (by omega) _ 0 [] (by omega) (by simp only [List.length_nil]; omega),hj2,hjj]
  ·rw [if_pos (by simp only [List.length_map]; omega),refL _ u 0 [] (by simp only [List.length_nil]; omega)]
   show z9n (nrm u)=_
   unfold z9n
   rw [hsub]
   simp only [Option.bind_some]
   rw [hsp]
   simp only [Option.bind_some]
   rw [if_pos (by omega)]
   have hB:=refB p x (fun l=>z5r 0 l) (by
    have:=congrArg List.length hpx
    simp only [List.length_append,List.length_singleton] at this
    omega) (spl 47 ((nrm u).drop 1)).length (by rw [hpx]; simp)
   rw [← hpx] at hB
   have hr:bkF x p.reverse=(fwS [] (spl 47 ((nrm u).drop 1))).reverse:=by
    rw [hpx,← w4z,List.reverse_reverse]
   rw [hr] at hB
   rw [← hjj,← (hj3 0).1]
   exact hB
def dcB (x:Bs):Bs:=(dec false x).getD []
theorem w5k (x:Bs) (h:x.length≤10000000):∃ b,Qz x false=some (dcB x,b):=by
 rw [x38 x false (by omega)]
 unfold dcB
 cases dec false x with
 | none=>exact ⟨false,rfl⟩
 | some d=>exact ⟨true,rfl⟩
theorem x4p:∀ (u:List (UInt8×Bool)) (k:Nat) (x:Bs),x.length+u.length≤900000000 →
  forL (fun (k:Nat) (x:wm) (s:(List Int))=>z1v k x s) (fun (s:(List Int))=>z5l s) k (u.map mkU) (yn x)=some (x++u.map (·.1))
 | [],k,x,h=>by
  show z5l (yn x)=_
  unfold z5l
  rw [z3c]; simp
 | p::u,k,x,h=>by
  simp only [List.length_cons] at h
  show (z1v k (mkU p) (yn x)).bind _=_
  have e:z1v k (mkU p) (yn x)=some (.inl (yn (x++[p.1]))):=by
   unfold z1v
   rw [if_pos (by rw [Zm]; omega),uw]; rfl
  rw [e]
  simp only [Option.bind_some,after]
  rw [x4p u (k+1) _ (by simp; omega)]
  simp
theorem w4s (s:Bs) (h:s.length≤10000000):z1d s=some (dcB s):=by
 unfold z1d dcB
 rw [y36 s (by omega),x4a]
 simp only [Option.bind_some]
 cases hu:uns s with
 | none=>rfl
 | some u =>
  have hul:=y8g s u hu
  simp only [Option.map_some,Option.getD_some]
  rw [if_pos (by simp; omega)]
  exact (x4p u 0 [] (by simp; omega)).trans (by simp)
def vdQ (s:Bs):Bool:=(dec false s).isSome
theorem w39:∀ (n:Nat) (s:Bs),s.length≤n→(dec true s).isSome=(dec false s).isSome:=by
 intro n
 induction n with
 | zero=>intro s h; obtain rfl:s=[]:=List.length_eq_zero_iff.1 (by omega); rfl
 | succ n ih =>
  intro s h
  rcases s with _ | ⟨c,r⟩
  ·rfl
  simp only [List.length_cons] at h
  by_cases hc:c=37
  ·subst hc
   rcases r with _ | ⟨a,_ | ⟨b,t⟩⟩
   ·rfl
   ·rfl
   ·simp only [List.length_cons] at h
    rw [kw,kw]
    split
    ·rw [Option.isSome_map,Option.isSome_map]; exact ih t (by omega)
    ·rfl
  ·rw [xn _ hc,xn _ hc,Option.isSome_map,Option.isSome_map]; exact ih r (by omega)
theorem x4c (c:UInt8) (hc:c≠37) (hh:isH c=false) (b:Bs):∀ (n:Nat) (a:Bs),a.length≤n→vdQ (a++c::b)=(vdQ a && vdQ b):=by
 intro n
 unfold vdQ
 induction n with
 | zero =>
  intro a h
  obtain rfl:a=[]:=List.length_eq_zero_iff.1 (by omega)
  rw [List.nil_append,xn _ hc,Option.isSome_map]
  rfl
 | succ n ih =>
  intro a h
  rcases a with _ | ⟨x,r⟩
  ·rw [List.nil_append,xn _ hc,Option.isSome_map]; rfl
  simp only [List.length_cons] at h
  rw [List.cons_append]
  by_cases hx:x=37
  ·subst hx
   rcases r with _ | ⟨y,_ | ⟨z,t⟩⟩
   ·rcases b with _ | ⟨b0,b⟩
    ·rfl
    ·rw [List.nil_append,kw,hh]; rfl
   ·rw [List.cons_append,List.nil_append,kw,hh,Bool.and_false]; rfl
   ·simp only [List.length_cons] at h
    rw [List.cons_append,List.cons_append,kw,kw]
    split
    ·rw [Option.isSome_map,Option.isSome_map]; exact ih t (by omega)
    ·rfl
  ·rw [xn _ hx,xn _ hx,Option.isSome_map,Option.isSome_map]; exact ih r (by omega)
theorem y4o (c:UInt8):∀ s:Bs,c ∉ s→spl c s=[s]
 | [],_=>rfl
 | x::s,h=>by
  have h1:x≠c:=fun e=>h (by simp [e])
  have h2:=y4o c s (fun e=>h (by simp [e]))
  unfold spl
  rw [if_neg h1,h2]
theorem y9z (c:UInt8) (q:Bs):∀ p:Bs,c ∉ p→spl c (p++c::q)=p::spl c q
 | [],_=>by
  rw [List.nil_append]
  conv=>lhs; unfold spl
  rw [if_pos rfl]
 | x::p,h=>by
  have h1:x≠c:=fun e=>h (by simp [e])
  have h2:=y9z c q p (fun e=>h (by simp [e]))
  rw [List.cons_append]
  conv=>lhs; unfold spl
  rw [if_neg h1,h2]
theorem x5j (c:UInt8) (hc:c≠37) (hh:isH c=false):∀ (n:Nat) (s:Bs),s.length≤n→vdQ s=(spl c s).all vdQ:=by
 intro n
 induction n with
 | zero=>intro s h; obtain rfl:s=[]:=List.length_eq_zero_iff.1 (by omega); rfl
 | succ n ih =>
  intro s h
  rcases z6e c s with h1 | ⟨p,q,rfl,h1⟩
  ·rw [y4o c s h1]; simp
  ·rw [y9z c q p h1,x4c c hc hh q p.length p (Nat.le_refl _),List.all_cons,ih q (by simp at h; omega)]
def rep (s:Bs):Bs:=s.flatMap fun c=>if c=43 then [37,50,48] else [c]
theorem y5a:∀ s:Bs,(43:UInt8) ∉ s→rep s=s
 | [],_=>rfl
 | x::s,h=>by
  have h1:x≠43:=fun e=>h (by simp [e])
  have h2:=y5a s (fun e=>h (by simp [e]))
  unfold rep at h2 ⊢
  rw [List.flatMap_cons,if_neg h1,h2]; rfl
theorem x0k (p q:Bs):rep (p++q)=rep p++rep q:=by unfold rep; rw [List.flatMap_append]
theorem z0p (c:UInt8) (s:Bs):rep (c::s)=(if c=43 then [37,50,48] else [c])++rep s:=by unfold rep; rw [List.flatMap_cons]
theorem repK:∀ (n:Nat) (s:Bs),s.length≤n→Lib.replaceK [43] [37,50,48] (Lib.count s [43]) s=rep s:=by
 intro n
 induction n with
 | zero=>intro s h; obtain rfl:s=[]:=List.length_eq_zero_iff.1 (by omega); rw [Lib.count_miss (by rfl)]; rfl
 | succ n ih =>
  intro s h
  rcases z6e 43 s with h1 | ⟨p,q,rfl,h1⟩
  ·rw [Lib.count_miss (y6t 43 s h1),y5a s h1]; rfl
  ·have hi:=y6u 43 q p h1
   have hd:(p++43::q).drop (p.length+1)=q:=by rw [← List.drop_drop]; simp
   rw [Lib.count_hit (by simp) hi,Nat.add_comm 1,Lib.replaceK_hit _ _ _ _ _ hi]
   simp only [List.length_cons,List.length_nil,Nat.zero_add]
   rw [hd,ih q (by simp at h; omega),x0k,z0p,y5a p h1]
   simp
theorem x8z (s:Bs):Lib.replaceAll s [43] [37,50,48]=rep s:=by
 unfold Lib.replaceAll Lib.replace Lib.replaceNum
 rw [if_neg (by decide),if_pos (.inl (by decide))]
 exact repK s.length s (Nat.le_refl _)
theorem y5b (s:Bs):(rep s).length≤3 * s.length:=by
 induction s with
 | nil=>simp [rep]
 | cons c s ih =>
  rw [z0p,List.length_append,List.length_cons]
  have:(if c=(43:UInt8) then ([37,50,48]:Bs) else [c]).length≤3:=by split <;> simp
  omega
theorem x0j (s:Bs) (h:(61:UInt8) ∉ s):(61:UInt8) ∉ rep s:=by
 unfold rep
 rw [List.mem_flatMap]
 rintro ⟨c,hc,hm⟩
 split at hm
 ·simp at hm
 ·have:61=c:=by simpa using hm
  exact h (this ▸ hc)
theorem x4d:∀ (n:Nat) (s:Bs),s.length≤n→vdQ s=true→dec false (rep s)=dec true s:=by
 intro n
 unfold vdQ
 induction n with
 | zero=>intro s h _; obtain rfl:s=[]:=List.length_eq_zero_iff.1 (by omega); rfl
 | succ n ih =>
  intro s h hv
  rcases s with _ | ⟨c,r⟩
  ·rfl
  simp only [List.length_cons] at h
  by_cases hc:c=37
  ·subst hc
   rcases r with _ | ⟨a,_ | ⟨b,t⟩⟩
   ·cases hv
   ·cases hv
   ·simp only [List.length_cons] at h
    rw [kw] at hv
    cases hh:isH a && isH b
    ·rw [hh] at hv; cases hv
    ·rw [hh] at hv
     simp only [if_true,Option.isSome_map] at hv
     have ha:a≠43:=fun e=>by rw [e] at hh; exact absurd hh (by simp [isH,hx])
     have hb:b≠43:=fun e=>by rw [e] at hh; exact absurd hh (by simp [isH,hx])
     rw [z0p,z0p,z0p,if_neg (by decide),if_neg ha,if_neg hb]
     simp only [List.cons_append,List.nil_append]
     rw [kw,kw,hh,ih t (by omega) hv]
  ·rw [xn _ hc,Option.isSome_map] at hv
   rw [z0p,xn _ hc]
   by_cases h43:c=43
   ·rw [if_pos h43]
    simp only [List.cons_append,List.nil_append]
    rw [kw,ih r (by omega) hv]
    have e1:(isH 50 && isH 48)=true:=by decide
    have e2:h2 50 48=pl true c:=by rw [h43]; decide
    rw [e1,e2]; rfl
   ·rw [if_neg h43]
    simp only [List.cons_append,List.nil_append]
    rw [xn _ hc,ih r (by omega) hv]
    have:pl false c=pl true c:=by unfold pl; rw [if_neg (by simp),if_neg (by simp [h43])]
    rw [this]
theorem x4o (s:Bs) (h:s.length≤1000000):z1d s=some ((dec false s).getD []):=w4s s (by omega)
theorem x5p (s:Bs) (h:s.length≤1000000):∃ us,Wh s=some (us,vdQ s):=by
 rw [y36 s (by omega)]
 unfold vdQ
 rw [x4a]
 cases uns s with
 | none=>exact ⟨_,rfl⟩
 | some u=>exact ⟨_,rfl⟩
def prQ (x:Bs):zo:=⟨(dec true (Lib.cut x [61]).1).getD [],(dec true (Lib.cut x [61]).2.1).getD []⟩
theorem y7i (x:Bs):(Lib.cut x [61]).1.length≤x.length∧(Lib.cut x [61]).2.1.length≤x.length:=by
 rcases z6e 61 x with h | ⟨p,q,rfl,h⟩
 ·rw [y3k 61 x h]; simp
 ·rw [y3l 61 p q h]; simp; omega
theorem x4g (x:Bs):vdQ x=(vdQ (Lib.cut x [61]).1 && vdQ (Lib.cut x [61]).2.1):=by
 rcases z6e 61 x with h | ⟨p,q,rfl,h⟩
 ·rw [y3k 61 x h]
  simp [vdQ,dec]
 ·rw [y3l 61 p q h,x4c 61 (by decide) (by decide) q p.length p (Nat.le_refl _)]
theorem x4b (s:Bs) (h:s.length≤1000000):Qz s true=some ((dec true s).getD [],vdQ s):=by
 rw [x38 s true (by omega)]
 unfold vdQ
 rw [← w39 s.length s (Nat.le_refl _)]
 cases dec true s <;> rfl
theorem x9r (k:Nat) (x:Bs) (l:List zo) (hx:x.length≤100000) (hl:l.length+1≤1000000000):z01 k x l=if x=[] then some (.inl l) else if vdQ x=true then some (.inl (l++[prQ x])) else some (.inr ([],9)):=by
 obtain ⟨c1,c2⟩:=y7i x
 unfold z01 z3r
 by_cases h0:x=[]
 ·rw [if_pos (by simpa using h0),if_pos h0]
 ·rw [if_neg (by simpa using h0),if_neg h0]
  unfold uh
  rw [if_pos (by omega)]
  simp only [Option.bind_some]
  rw [x4b _ (by omega)]
  simp only [Option.bind_some]
  rw [x4b _ (by omega)]
  simp only [Option.bind_some]
  rw [x4g x]
  cases vdQ (Lib.cut x [61]).1 <;> cases vdQ (Lib.cut x [61]).2.1 <;> simp [prQ,hl]
theorem x9q (k:Nat) (x:Bs) (l:List zo) (hx:x.length≤100000) (hv:vdQ x=true) (hl:l.length+1≤1000000000):z1z k x l=if x=[] then some (.inl l) else some (.inl (l++[prQ x])):=by
 obtain ⟨c1,c2⟩:=y7i x
 have hv2:=x4g x
 rw [hv] at hv2
 have hv2:=(Bool.and_eq_true _ _).mp hv2.symm
 have hcut:Lib.cut (rep x) [61]=(rep (Lib.cut x [61]).1,rep (Lib.cut x [61]).2.1,(Lib.cut x [61]).2.2):=by
  rcases z6e 61 x with h | ⟨p,q,rfl,h⟩
  ·rw [y3k 61 x h,y3k 61 _ (x0j x h)]; rfl
  ·rw [y3l 61 p q h,x0k,z0p,if_neg (by decide)]
   exact y3l 61 _ _ (x0j p h)
 unfold z1z z5p
 by_cases h0:x=[]
 ·rw [if_pos (by simpa using h0),if_pos h0]
 ·rw [if_neg (by simpa using h0),if_neg h0]
  have hr:=y5b x
  have hr1:=y5b (Lib.cut x [61]).1
  have hr2:=y5b (Lib.cut x [61]).2.1
  unfold y1y
  rw [if_pos (by simp; omega),x8z]
  simp only [Option.bind_some]
  unfold uh
  rw [if_pos (by omega),hcut]
  simp only [Option.bind_some]
  rw [x4o _ (by omega)]
  simp only [Option.bind_some]
  rw [x4o _ (by omega)]
  simp only [Option.bind_some]
  rw [if_pos hl,x4d _ _ (Nat.le_refl _) hv2.1,x4d _ _ (Nat.le_refl _) hv2.2]
  rfl
def prs (xs:List Bs):List zo:=(xs.filter fun x => !decide (x=[])).map prQ
theorem y57:∀ (xs:List Bs) (k:Nat) (l:List zo),(∀ x,x∈xs→x.length≤100000)→l.length+xs.length≤1000000→forL (fun (k:Nat) (x:Bs) (s:(List zo))=>z01 k x s) (fun (s:(List zo))=>Qu s) k xs l=if xs.all vdQ=true then Qu (l++prs xs) else some ([],9)
 | [],k,l,_,_=>by simp [forL,prs]
 | x::xs,k,l,hx,hl=>by
  simp only [List.length_cons] at hl
  show (z01 k x l).bind _=_
  rw [x9r k x l (hx x (by simp)) (by omega)]
  by_cases h0:x=[]
  ·subst h0
   rw [if_pos rfl]
   simp only [Option.bind_some,after]
   rw [y57 xs (k+1) l (fun y hy=>hx y (by simp [hy])) (by omega)]
   simp [prs,vdQ,dec]
  ·rw [if_neg h0]
   cases hv:vdQ x
   ·simp [hv,after]
   ·simp only [if_true,Option.bind_some,after]
    rw [y57 xs (k+1) _ (fun y hy=>hx y (by simp [hy])) (by simp; omega)]
    simp [prs,hv,h0]
theorem y56:∀ (xs:List Bs) (k:Nat) (l:List zo),(∀ x,x∈xs→x.length≤100000∧vdQ x=true)→l.length+xs.length≤1000000→forL (fun (k:Nat) (x:Bs) (s:(List zo))=>z1z k x s) (fun (s:(List zo))=>z5q s) k xs l=z5q (l++prs xs)
 | [],k,l,_,_=>by simp [forL,prs]
 | x::xs,k,l,hx,hl=>by
  simp only [List.length_cons] at hl
  obtain ⟨h1,h2⟩:=hx x (by simp)
  show (z1z k x l).bind _=_
  rw [x9q k x l h1 h2 (by omega)]
  by_cases h0:x=[]
  ·subst h0
   rw [if_pos rfl]
   simp only [Option.bind_some,after]
   rw [y56 xs (k+1) l (fun y hy=>hx y (by simp [hy])) (by omega)]
   simp [prs]
  ·rw [if_neg h0]
   simp only [Option.bind_some,after]
   rw [y56 xs (k+1) _ (fun y hy=>hx y (by simp [hy])) (by simp; omega)]
   simp [prs,h0]
theorem x5i (s:Bs) (h:s.length≤100000):∃ b,Yt s 33=some b:=by
 have:Ok (Yt s 33) fun _=>True:=by
  unfold Yt
  refine ok_g (by omega) (y5k (fun _ _=>True) s 0 () trivial (fun j x u _ _ _ => ?_) (fun _ _=>⟨_,rfl,trivial⟩))
  unfold y20 z5i
  refine wh (fun _=>wh (fun _=>qg trivial) (fun _=>qg trivial)) (fun _=>wh (fun _=>qg trivial) (fun _=>qg trivial))
 obtain ⟨b,h1,_⟩:=this
 exact ⟨b,h1⟩
theorem x88 (s:Bs) (h:s.length≤100000):Ok (Wd s) fun r=>z1f s=some r∧r.1.length≤1000∧(r.2=0→r.1=prs (spl 38 s)∧r.1.length≤100∧s.length≤1000):=by
 obtain ⟨b,hb⟩:=x5i s h
 have hr:Ys s 33 126=some b:=hb
 have hc:Qx s [35]=some (Lib.contains s [35]):=by unfold Qx; rw [if_pos (by omega)]
 have hbad:xi s=some 3→xl s=some false→Ok (Wd s) fun r=>z1f s=some r∧r.1.length≤1000∧(r.2=0→r.1=prs (spl 38 s)∧r.1.length≤100∧s.length≤1000):=fun h1 h2=>by
  refine ⟨([],3),?_,?_,by simp,fun h=>by cases h⟩
  ·unfold Wd; rw [h1]; rfl
  ·unfold z1f; rw [h2]; rfl
 by_cases hl:s.length≤1000
 ·have e1:¬ decide (1000 < (s.length:Int))=true:=by simp; omega
  have e2:decide ((s.length:Int)≤1000)=true:=by simp; omega
  cases hbv:b
  ·refine hbad ?_ ?_
   ·unfold xi xz; rw [if_neg e1,hr,hbv]; rfl
   ·unfold xl Zc; rw [if_pos e2,hb,hbv]; rfl
  ·cases hcv:Lib.contains s [35]
   ·have f1:xi s=some 0:=by unfold xi xz; rw [if_neg e1,hr,hbv,hc,hcv]; rfl
    have f2:xl s=some true:=by unfold xl Zc; rw [if_pos e2,hb,hbv,hc,hcv]; rfl
    obtain ⟨us,hu⟩:=x5p s (by omega)
    have hsp:jk s [38]=some (spl 38 s):=by
     unfold jk
     rw [if_pos ⟨by omega,by simp⟩,z3e]
    have hsl:=z3f 38 s
    have hpc:∀ x,x∈spl 38 s→x.length≤100000:=fun x hx=>by have:=Qr 38 s x hx; omega
    have hv:=x5j 38 (by decide) (by decide) s.length s (Nat.le_refl _)
    have hP:Wd s=if (spl 38 s).all vdQ=true then Qu (prs (spl 38 s)) else some ([],9):=by
     unfold Wd
     rw [f1]
     simp only [Option.bind_some,ne_eq,not_true_eq_false,decide_false,Bool.false_eq_true,if_false,hsp]
     rw [if_pos (by omega),y57 _ 0 [] hpc (by simp only [List.length_nil]; omega),List.nil_append]
    rw [hP]
    unfold z1f
    rw [f2]
    simp only [Option.bind_some,Bool.not_true,Bool.false_eq_true,if_false,hu,hsp]
    cases hvs:vdQ s
    ·rw [← hv,hvs]
     exact ⟨([],9),rfl,rfl,by simp,fun h=>by cases h⟩
    ·rw [← hv,hvs]
     have hall:∀ x,x∈spl 38 s→x.length≤100000∧vdQ x=true:=fun x hx=>⟨hpc x hx,List.all_eq_true.1 (by rw [← hv,hvs]) x hx⟩
     simp only [Bool.not_true,Bool.false_eq_true,if_false,if_true]
     rw [if_pos (by omega),y56 _ 0 [] hall (by simp only [List.length_nil]; omega),List.nil_append]
     have hEE:z5q (prs (spl 38 s))=Qu (prs (spl 38 s)):=rfl
     rw [hEE]
     unfold Qu
     refine wh (fun h1=>⟨_,rfl,?_,by simp,fun h=>by cases h⟩) (fun h1=>⟨_,rfl,?_,?_,fun _=>⟨rfl,?_,hl⟩⟩)
     ·rw [if_pos h1]
     ·rw [if_neg h1]
     ·have h1:¬ 100 < ((prs (spl 38 s)).length:Int):=by simpa using h1
      simp only; omega
     ·have h1:¬ 100 < ((prs (spl 38 s)).length:Int):=by simpa using h1
      simp only; omega
   ·refine hbad ?_ ?_
    ·unfold xi xz; rw [if_neg e1,hr,hbv,hc,hcv]; rfl
    ·unfold xl Zc; rw [if_pos e2,hb,hbv,hc,hcv]; rfl
 ·refine hbad ?_ ?_
  ·unfold xi xz; rw [if_pos (by simp; omega)]; rfl
  ·unfold xl Zc; rw [if_neg (by simp; omega)]; try rfl

noncomputable def frQ (c:UInt8):Bool:=decide (Zr (c.toNat:Int)=some true)
noncomputable def pcQ (c:UInt8):Bs:=(Zq (c.toNat:Int)).getD []
noncomputable def qcQ (c:UInt8):Bs:=if c.toNat=32 then [43] else if frQ c then [c] else pcQ c
theorem w3m (c:UInt8):Zr (c.toNat:Int)=some (frQ c):=by
 have:=je (fun c=>decide (Zr (c.toNat:Int)=some (frQ c))) (by decide +kernel) c
 exact of_decide_eq_true this
theorem y1i (c:UInt8):Zq (c.toNat:Int)=some (pcQ c)∧(pcQ c).length=3:=by
 have:=je (fun c=>decide (Zq (c.toNat:Int)=some (pcQ c)∧(pcQ c).length=3)) (by decide +kernel) c
 exact of_decide_eq_true this
theorem w4j (c:UInt8):Wi (c.toNat:Int)=some (pcQ c):=by
 have:=je (fun c=>decide (Wi (c.toNat:Int)=some (pcQ c))) (by decide +kernel) c
 exact of_decide_eq_true this
theorem x9k (c:UInt8):(decide (0≤Lib.indexByte [97,98,99,100,101,102,103,104,105,106,107,108,109,110,111,112,113,114,115,116,117,118,119,120,121,122,65,66,67,68,69,70,71,72,73,74,75,76,77,78,79,80,81,82,83,84,85,86,87,88,89,90,48,49,50,51,52,53,54,55,56,57,45,46,95,126] c))=frQ c:=by
 have:=je (fun c=>(decide (0≤Lib.indexByte [97,98,99,100,101,102,103,104,105,106,107,108,109,110,111,112,113,114,115,116,117,118,119,120,121,122,65,66,67,68,69,70,71,72,73,74,75,76,77,78,79,80,81,82,83,84,85,86,87,88,89,90,48,49,50,51,52,53,54,55,56,57,45,46,95,126] c)) == frQ c) (by decide +kernel) c
 simpa using this
noncomputable def qwQ (s:Bs):Bs:=s.flatMap qcQ
theorem y5c (c:UInt8):(qcQ c).length≤3:=by
 unfold qcQ
 split
 ·simp
 ·split
  ·simp
  ·rw [(y1i c).2]; exact Nat.le_refl _
theorem x0m (s:Bs):(qwQ s).length≤3 * s.length:=by
 induction s with
 | nil=>simp [qwQ]
 | cons c s ih =>
  unfold qwQ at ih ⊢
  have:=y5c c
  rw [List.flatMap_cons,List.length_append,List.length_cons]
  omega
theorem x5c (k:Nat) (c:UInt8) (x:Bs) (hl:x.length+3≤1000000000):z0u k c (yn x)=some (.inl (yn (x++qcQ c))):=by
 have hn:(yn x).length+1≤1000000000:=by rw [Zm]; omega
 unfold z0u z0v qcQ
 by_cases h0:c.toNat=32
 ·have:decide ((c.toNat:Int)=32)=true:=by simp; omega
  rw [if_pos this,if_pos h0,z0g _ _ hn]
  simp only [Option.bind_some,uw]; rfl
 ·have:¬ decide ((c.toNat:Int)=32)=true:=by simp; omega
  rw [if_neg this,if_neg h0,w3m]
  simp only [Option.bind_some]
  cases frQ c
  ·simp only [Bool.false_eq_true,if_false]
   rw [(y1i c).1]
   simp only [Option.bind_some]
   unfold z30
   rw [if_pos (by rw [Zm,(y1i c).2]; omega)]
   simp only [Option.bind_some,uw]
  ·simp only [if_true]
   rw [z0g _ _ hn]
   simp only [Option.bind_some,uw]; rfl
theorem x5b (k:Nat) (c:UInt8) (x:Bs) (hl:x.length+3≤1000000000):z1s k c (yn x)=some (.inl (yn (x++qcQ c))):=by
 have hn:(yn x).length+1≤1000000000:=by rw [Zm]; omega
 unfold z1s z1t qcQ
 by_cases h0:c.toNat=32
 ·have:decide ((c.toNat:Int)=32)=true:=by simp; omega
  rw [if_pos this,if_pos h0,if_pos hn]
  rw [uw]; rfl
 ·have:¬ decide ((c.toNat:Int)=32)=true:=by simp; omega
  rw [if_neg this,if_neg h0]
  unfold z06
  simp only [Option.bind_some]
  have e1:((c.toNat:Int)).toNat.toUInt8=c:=by simp
  rw [e1,x9k]
  cases frQ c
  ·simp only [Bool.false_eq_true,if_false]
   rw [w4j]
   simp only [Option.bind_some]
   rw [if_pos (by rw [Zm,(y1i c).2]; omega),uw]
  ·simp only [if_true]
   rw [if_pos hn,uw]; rfl
theorem y74:∀ (s:Bs) (k:Nat) (x:Bs),x.length+3 * s.length≤1000000000→forL (fun (k:Nat) (x:UInt8) (s:(List Int))=>z0u k x s) (fun (s:(List Int))=>z3i s) k s (yn x)=some (x++qwQ s)
 | [],k,x,h=>by
  show z3i (yn x)=_
  unfold z3i
  rw [if_pos (y7m x),z3c]; simp [qwQ]
 | c::s,k,x,h=>by
  simp only [List.length_cons] at h
  have:=y5c c
  show (z0u k c (yn x)).bind _=_
  rw [x5c k c x (by omega)]
  simp only [Option.bind_some,after]
  rw [y74 s (k+1) _ (by simp; omega)]
  simp [qwQ]
theorem y73:∀ (s:Bs) (k:Nat) (x:Bs),x.length+3 * s.length≤1000000000→forL (fun (k:Nat) (x:UInt8) (s:(List Int))=>z1s k x s) (fun (s:(List Int))=>z5j s) k s (yn x)=some (x++qwQ s)
 | [],k,x,h=>by
  show z5j (yn x)=_
  unfold z5j
  rw [z3c]; simp [qwQ]
 | c::s,k,x,h=>by
  simp only [List.length_cons] at h
  have:=y5c c
  show (z1s k c (yn x)).bind _=_
  rw [x5b k c x (by omega)]
  simp only [Option.bind_some,after]
  rw [y73 s (k+1) _ (by simp; omega)]
  simp [qwQ]
theorem z92 (s:Bs) (h:s.length≤100000):z36 s=some (qwQ s)∧z4h s=some (qwQ s):=by
 constructor
 ·unfold z36
  rw [if_pos (by omega)]
  exact y74 s 0 [] (by simp only [List.length_nil]; omega)
 ·unfold z4h
  rw [if_pos (by omega)]
  exact y73 s 0 [] (by simp only [List.length_nil]; omega)
theorem x6j (l:List zo) (hl:l.length≤1000) (hp:∀ p,p∈l→p.Name.length≤1000∧p.Value.length≤1000):Ok (Wb l) fun r=>z4l l=some r:=by
 have hsame:z4l l=Wb l:=by
  unfold Wb z4l
  split
  ·rfl
  ·split
   ·refine y68 (fun _=>rfl) l 0 [] fun j x s _ hj => ?_
    obtain ⟨h1,h2⟩:=hp x (List.mem_of_getElem? hj)
    have h3:=z92 x.Name (by omega)
    have h4:=z92 x.Value (by omega)
    unfold z7o y27
    rw [h3.1,h3.2,h4.1,h4.2]
    have hc:((x.Name == []) && ((x.Value == []) && true))=((decide (x.Name=[])) && (decide (x.Value=[]))):=by
     rw [Bool.and_true]
     rcases x with ⟨a,b⟩
     cases a <;> cases b <;> rfl
    rw [hc]
   ·rfl
 rw [hsame]
 have:Ok (Wb l) fun _=>True:=by
  unfold Wb
  refine wh (fun _=>qg trivial) (fun _=>ok_g (by omega) ?_)
  refine y5k (fun j (s:List Bs)=>s.length≤j∧∀ y,y∈s→y.length≤10000) l 0 [] ⟨by simp,by simp⟩ (fun j x s _ hj hI => ?_) (fun s hI => ?_)
  ·obtain ⟨h1,h2⟩:=hp x (List.mem_of_getElem? hj)
   have hjl:=Ws hj
   have q1:=x0m x.Name
   have q2:=x0m x.Value
   unfold z7o
   rw [(z92 x.Name (by omega)).1,(z92 x.Value (by omega)).1]
   refine wh (fun _=>qg trivial) (fun _ => ?_)
   simp only [Option.bind_some]
   refine ok_g (by simp; omega) (ok_g (by simp; omega) (ok_g (by omega) (qg ?_)))
   refine ⟨by simp; omega,fun y hy => ?_⟩
   rcases List.mem_append.1 hy with h | h
   ·exact hI.2 y h
   ·have:y=(qwQ x.Name++[61])++qwQ x.Value:=by simpa using h
    rw [this]; simp; omega
  ·have hj:=z45 10000 [38] s hI.2
   have hs:s.length≤1000:=by omega
   have hm:s.length * (10000+([38]:Bs).length)≤1000 * 10001:=Nat.mul_le_mul hs (by simp)
   unfold y1r
   have hJ:jl s [38]=some (Lib.join s [38]):=by
    unfold jl
    rw [if_pos ⟨by omega,by omega⟩]
   rw [hJ]
   simp only [Option.bind_some]
   exact wh (fun _=>qg trivial) (fun _=>qg trivial)
 obtain ⟨r,h1,_⟩:=this
 exact ⟨r,h1,h1⟩

end Go.Proofs.YtmdllhcjefcggacGreatDoor
