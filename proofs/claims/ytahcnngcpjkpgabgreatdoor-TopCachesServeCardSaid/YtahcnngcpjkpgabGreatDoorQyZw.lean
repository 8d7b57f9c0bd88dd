/- Plain: queries of both sides, read and written. -/
import Derived.Test.YtahcnngcpjkpgabGreatDoorNmZw
namespace Go.Proofs.YtahcnngcpjkpgabGreatDoor
set_option linter.unusedVariables false
set_option maxRecDepth 20000
def hx (c:UInt8):Nat:=if 48≤c.toNat∧c.toNat≤57 then c.toNat - 48 else if 97≤c.toNat∧c.toNat≤102 then c.toNat - 87 else if 65≤c.toNat∧c.toNat≤70 then c.toNat - 55 else 99
def isH (c:UInt8):Bool:=decide (hx c < 16)
theorem x78 (c:UInt8) (k v:Nat) (hv:v < 16):Qx 16 16 8 1152921504606846976 k (c.toNat:Int) false (v:Int)=if isH c then some (.inl (false,((v * 16+hx c:Nat):Int))) else some (.inr (0,2)):=by
 show Qx 16 16 8 1152921504606846976 0 (c.toNat:Int) false (v:Int)=_
 have:=jg (fun c=>(List.range 16).all fun v=>decide (Qx 16 16 8 1152921504606846976 0 (c.toNat:Int) false ((v:Nat):Int)=if isH c then some (.inl (false,((v * 16+hx c:Nat):Int))) else some (.inr (0,2)))) (by decide +kernel) c
 exact of_decide_eq_true ((List.all_eq_true.1 this) v (by simpa using hv))
theorem pu2 (a b:UInt8):z5f [a,b] 16 8=some (if isH a && isH b then (((16 * hx a+hx b:Nat):Int),0) else (0,5)):=by
 have e1:z5t [a,b] 16 8=forL (fun (k:Nat) (x:Int) (s:Bool×Int)=>Qx 16 16 8 1152921504606846976 k x s.1 s.2) (fun (s:Bool×Int)=>z6l [a,b] s.1 s.2) 0 [(a.toNat:Int),(b.toNat:Int)] (false,0):=rfl
 have e2:z5t [a,b] 16 8=some (if isH a && isH b then (((16 * hx a+hx b:Nat):Int),0) else (0,2)):=by
  rw [e1]
  show (Qx 16 16 8 1152921504606846976 0 (a.toNat:Int) false ((0:Nat):Int)).bind _=_
  rw [x78 a 0 0 (by omega)]
  cases ha:isH a
  ·rfl
  ·have hla:hx a < 16:=of_decide_eq_true ha
   simp only [if_true,Option.bind_some,after]
   show (Qx 16 16 8 1152921504606846976 1 (b.toNat:Int) false ((0 * 16+hx a:Nat):Int)).bind _=_
   rw [x78 b 1 _ (by omega)]
   cases hb:isH b
   ·rfl
   ·simp only [if_true,Option.bind_some,after,Bool.and_self]
    show z6l [a,b] false _=_
    unfold z6l z6j
    simp only [Bool.false_eq_true,if_false]
    congr 3; omega
 unfold z5f
 rw [e2]
 cases isH a && isH b
 ·rfl
 ·rfl
def pl (plus:Bool) (c:UInt8):UInt8:=if c=43∧plus=true then 32 else c
def h2 (a b:UInt8):UInt8:=UInt8.ofNat (16 * hx a+hx b)
def dec (plus:Bool):Bs→Option Bs
 | []=>some []
 | [c]=>if c=37 then none else some [pl plus c]
 | [c,d]=>if c=37 then none else (dec plus [d]).map (pl plus c :: ·)
 | c::a::b::r=>if c=37 then (if isH a && isH b then (dec plus r).map (h2 a b :: ·) else none) else (dec plus (a::b::r)).map (pl plus c :: ·)
theorem Zj (plus:Bool) {c:UInt8} (hc:c≠37) (r:Bs):dec plus (c::r)=(dec plus r).map (pl plus c :: ·):=by
 match r with
 | []=>simp [dec,hc]
 | [d] =>
  have:dec plus [c,d]=if c=37 then none else (dec plus [d]).map (pl plus c :: ·):=rfl
  rw [this,if_neg hc]
 | a::b::r =>
  have:dec plus (c::a::b::r)=if c=37 then (if isH a && isH b then (dec plus r).map (h2 a b :: ·) else none) else (dec plus (a::b::r)).map (pl plus c :: ·):=rfl
  rw [this,if_neg hc]
theorem uq (plus:Bool) (a b:UInt8) (r:Bs):dec plus (37::a::b::r)=if isH a && isH b then (dec plus r).map (h2 a b :: ·) else none:=by
 have:dec plus (37::a::b::r)=if (37:UInt8)=37 then (if isH a && isH b then (dec plus r).map (h2 a b :: ·) else none) else (dec plus (a::b::r)).map (pl plus 37 :: ·):=rfl
 rw [this,if_pos rfl]
theorem z63 (plus:Bool) {r:Bs} (hr:r.length < 2):dec plus (37::r)=none:=by
 match r with
 | []=>simp [dec]
 | [d]=>simp [dec]
theorem v0k (plus:Bool):∀ (n:Nat) (s d:Bs),s.length≤n→dec plus s=some d→d.length≤s.length:=by
 intro n
 induction n with
 | zero =>
  intro s d h hd
  obtain rfl:s=[]:=List.length_eq_zero_iff.1 (by omega)
  cases hd; simp
 | succ n ih =>
  intro s d h hd
  match s with
  | []=>cases hd; simp
  | c::r =>
   simp only [List.length_cons] at h ⊢
   by_cases hc:c=37
   ·subst hc
    match r with
    | []=>rw [z63 plus (by simp)] at hd; cases hd
    | [x]=>rw [z63 plus (by simp)] at hd; cases hd
    | a::b::r =>
     rw [uq] at hd
     split at hd
     ·cases hq:dec plus r with
      | none=>rw [hq] at hd; cases hd
      | some e =>
       rw [hq] at hd
       cases hd
       simp only [List.length_cons] at h ⊢
       have:=ih r e (by omega) hq
       omega
     ·cases hd
   ·rw [Zj plus hc] at hd
    cases hq:dec plus r with
    | none=>rw [hq] at hd; cases hd
    | some e =>
     rw [hq] at hd
     cases hd
     have:=ih r e (by omega) hq
     simp only [List.length_cons]; omega
theorem w81 (c:UInt8):z5n (c.toNat:Int)=some (isH c):=by
 have:=jg (fun c=>decide (z5n (c.toNat:Int)=some (isH c))) (by decide +kernel) c
 exact of_decide_eq_true this
theorem z1b {s:Bs} {i:Nat} {c:UInt8} {r:Bs} (h:s.drop i=c::r):at? s (i:Int)=some c∧i+r.length+1=s.length:=by
 have h1:=congrArg List.length h
 simp only [List.length_drop,List.length_cons] at h1
 refine ⟨?_,by omega⟩
 rw [y01]
 have:(s.drop i)[0]?=some c:=by rw [h]; rfl
 simpa using this
theorem Yu {s:Bs} {i:Nat} {c:UInt8} {r:Bs} (h:s.drop i=c::r):s.drop (i+1)=r:=by
 rw [← List.drop_drop,h]; rfl
def unH:Bs→Bool
 | a::b::_=>isH a && isH b
 | _=>false
theorem y9e {s:Bs} {i:Nat} {c:UInt8} {r:Bs} (h:s.drop i=c::r) (hl:s.length≤100000000):z0k s (i:Int)=some (unH r):=by
 obtain ⟨_,h1⟩:=z1b h
 have h2:=Yu h
 unfold z0k z1z
 have w1:wr ((i:Int)+1)=((i+1:Nat):Int):=by rw [qc (by omega)]; omega
 have w2:wr ((i:Int)+2)=((i+2:Nat):Int):=by rw [qc (by omega)]; omega
 rw [w1,w2]
 match r with
 | []=>rw [if_neg (by simp at h1 ⊢; omega)]; rfl
 | [x]=>rw [if_neg (by simp at h1 ⊢; omega)]; rfl
 | a::b::t =>
  have h3:=Yu h2
  rw [if_pos (by simp only [List.length_cons] at h1; simp; omega),(z1b h2).1]
  simp only [Option.bind_some,w81]
  rw [show i+1+1=i+2 from rfl] at h3
  rw [show unH (a::b::t)=(isH a && isH b) from rfl]
  cases isH a
  ·rfl
  ·simp only [if_true,(z1b h3).1,Option.bind_some,Bool.true_and]
theorem x1g {s:Bs} {i:Nat} {c a b:UInt8} {t:Bs} (h:s.drop i=c::a::b::t) (hl:s.length≤100000000) (hh:(isH a && isH b)=true):z5k s (i:Int)=some ((h2 a b).toNat:Int):=by
 have hd:=Yu h
 obtain ⟨_,h1⟩:=z1b h
 simp only [List.length_cons] at h1
 have w1:wr ((i:Int)+1)=((i+1:Nat):Int):=by rw [qc (by omega)]; omega
 have w3:wr ((i:Int)+3)=((i+3:Nat):Int):=by rw [qc (by omega)]; omega
 unfold z5k
 rw [w1,w3]
 have hs:sub? s ((i+1:Nat):Int) ((i+3:Nat):Int)=some [a,b]:=by
  unfold sub?
  rw [if_pos (by omega)]
  simp only [Int.toNat_natCast]
  rw [hd,show i+3 - (i+1)=2 by omega]; rfl
 rw [hs]
 simp only [Option.bind_some]
 rw [pu2,hh]
 have ha:hx a < 16:=by simp [isH] at hh; exact hh.1
 have hb:hx b < 16:=by simp [isH] at hh; exact hh.2
 simp only [if_true,Option.bind_some,ne_eq,not_true_eq_false,decide_false,Bool.false_eq_true,if_false]
 first | rfl | (congr 1; unfold IntKind.wrap h2; simp [IntKind.bits,IntKind.signed])
theorem z1d (l:List Int) (n:Int) (h:l.length+1≤1000000000):Zs l n=some (0,l++[n]):=by
 unfold Zs
 rw [if_pos h]
theorem v0h (s:Bs) (plus:Bool) (hl:s.length≤100000000):∀ (n i:Nat) (x:Bs),s.length - i≤n→i≤s.length→x.length≤i →
  iter (fun (q:Int×(List Int))=>ku s plus q.1 q.2) ((i:Int),yk x)=some (match dec plus (s.drop i) with | some d=>(x++d,true) | none=>([],false)):=by
 intro n
 induction n with
 | zero =>
  intro i x h hi hx
  obtain rfl:i=s.length:=by omega
  rw [kv (body:=fun (q:Int×(List Int))=>ku s plus q.1 q.2) (s:=((s.length:Int),yk x)) (r:=(x,true))]
  ·simp [dec]
  ·unfold ku z8p
   rw [if_neg (by simp),if_pos (y0x x),Wt]; rfl
 | succ n ih =>
  intro i x h hi hx
  cases hd:s.drop i with
  | nil =>
   have:s.length≤i:=by simpa using hd
   obtain rfl:i=s.length:=by omega
   have e:=ih s.length x (by omega) (by omega) hx
   rw [List.drop_length] at e
   exact e
  | cons c r =>
   obtain ⟨g1,g2⟩:=z1b hd
   have g3:=Yu hd
   have step:∀ y:UInt8,y=pl plus c→c≠37→ku s plus (i:Int) (yk x)=some (.inl (((i+1:Nat):Int),yk (x++[y])))→iter (fun (q:Int×(List Int))=>ku s plus q.1 q.2) ((i:Int),yk x)=some (match dec plus (c::r) with | some d=>(x++d,true) | none=>([],false)):=fun y hy hc hs=>by
    rw [Zi (body:=fun (q:Int×(List Int))=>ku s plus q.1 q.2) (s:=((i:Int),yk x)) hs,ih (i+1) _ (by omega) (by omega) (by simp; omega),g3,Zj plus hc,hy]
    cases dec plus r <;> simp
   have hw:wr ((i:Int)+1)=((i+1:Nat):Int):=by rw [qc (by omega)]; omega
   have hlen:(yk x).length+1≤1000000000:=by rw [Zo]; omega
   have hin:decide ((i:Int) < (s.length:Int))=true:=by simp; omega
   by_cases hp:c=43∧plus=true
   ·refine step 32 (by unfold pl; rw [if_pos hp]) (by rw [hp.1]; decide) ?_
    unfold ku Qg
    rw [if_pos hin,g1]
    simp only [Option.bind_some]
    rw [if_pos (by rw [hp.1,hp.2]; rfl),z1d _ _ hlen]
    simp only [Option.bind_some,hw,xb]; rfl
   ·have hp':¬ ((decide ((c.toNat:Int)=43)) && plus)=true:=by
     intro h
     simp only [Bool.and_eq_true,decide_eq_true_eq] at h
     exact hp ⟨UInt8.toNat_inj.1 (by have:=h.1; simp; omega),h.2⟩
    by_cases hc:c=37
    ·have hn:¬ decide ((c.toNat:Int)≠37)=true:=by rw [hc]; decide
     have hu:=y9e hd hl
     have hbad:unH r=false→dec plus (c::r)=none→iter (fun (q:Int×(List Int))=>ku s plus q.1 q.2) ((i:Int),yk x)=some (match dec plus (c::r) with | some d=>(x++d,true) | none=>([],false)):=fun hb hdn=>by
      rw [hb] at hu
      rw [hdn]
      refine kv (body:=fun (q:Int×(List Int))=>ku s plus q.1 q.2) (s:=((i:Int),yk x)) ?_
      show ku s plus (i:Int) (yk x)=_
      unfold ku
      rw [if_pos hin,g1]
      simp only [Option.bind_some]
      rw [if_neg hp',if_neg hn,hu]
      rfl
     rcases r with _ | ⟨a,_ | ⟨b,t⟩⟩
     ·exact hbad rfl (by rw [hc,z63 plus (by simp)])
     ·exact hbad rfl (by rw [hc,z63 plus (by simp)])
     ·cases hh:isH a && isH b
      ·exact hbad hh (by rw [hc,uq,hh]; rfl)
      ·have hu:z0k s (i:Int)=some (isH a && isH b):=hu
       have hun:=x1g hd hl hh
       simp only [List.length_cons] at g2
       have g4:=Yu (Yu g3)
       have hs:ku s plus (i:Int) (yk x)=some (.inl (((i+3:Nat):Int),yk (x++[h2 a b]))):=by
        unfold ku Qg
        rw [if_pos hin,g1]
        simp only [Option.bind_some]
        rw [if_neg hp',if_neg hn,hu,hh]
        simp only [Option.bind_some,Bool.not_true,Bool.false_eq_true,if_false,hun]
        rw [z1d _ _ hlen]
        simp only [Option.bind_some,xb]
        rw [qc (n:=(i:Int)+2) (by omega),qc (by omega)]
        congr 3
       rw [Zi (body:=fun (q:Int×(List Int))=>ku s plus q.1 q.2) (s:=((i:Int),yk x)) hs,ih (i+3) _ (by omega) (by omega) (by simp; omega),show s.drop (i+3)=t from g4,hc,uq,hh]
       simp only [if_true]
       cases dec plus t <;> simp
    ·refine step c (by unfold pl; rw [if_neg hp]) hc ?_
     unfold ku Qg
     rw [if_pos hin,g1]
     simp only [Option.bind_some]
     rw [if_neg hp',if_pos (by
      have:(c.toNat:Int)≠37:=fun h=>hc (UInt8.toNat_inj.1 (by simp; omega))
      simpa using this),z1d _ _ hlen]
     simp only [Option.bind_some,hw,xb]; rfl
theorem x8a (s:Bs) (plus:Bool) (hl:s.length≤100000000):z0m s plus=some (match dec plus s with | some d=>(d,true) | none=>([],false)):=by
 unfold z0m
 have:=v0h s plus hl s.length 0 [] (by omega) (by omega) (by simp)
 simpa [yk] using this
def uns:Bs→Option (List (UInt8×Bool))
 | []=>some []
 | [c]=>if c=37 then none else some [(c,true)]
 | [c,d]=>if c=37 then none else (uns [d]).map ((c,true) :: ·)
 | c::a::b::r=>if c=37 then (if isH a && isH b then (uns r).map ((h2 a b,false) :: ·) else none) else (uns (a::b::r)).map ((c,true) :: ·)
theorem z7n {c:UInt8} (hc:c≠37) (r:Bs):uns (c::r)=(uns r).map ((c,true) :: ·):=by
 match r with
 | []=>simp [uns,hc]
 | [d] =>
  have:uns [c,d]=if c=37 then none else (uns [d]).map ((c,true) :: ·):=rfl
  rw [this,if_neg hc]
 | a::b::r =>
  have:uns (c::a::b::r)=if c=37 then (if isH a && isH b then (uns r).map ((h2 a b,false) :: ·) else none) else (uns (a::b::r)).map ((c,true) :: ·):=rfl
  rw [this,if_neg hc]
theorem z7m (a b:UInt8) (r:Bs):uns (37::a::b::r)=if isH a && isH b then (uns r).map ((h2 a b,false) :: ·) else none:=by
 have:uns (37::a::b::r)=if (37:UInt8)=37 then (if isH a && isH b then (uns r).map ((h2 a b,false) :: ·) else none) else (uns (a::b::r)).map ((37,true) :: ·):=rfl
 rw [this,if_pos rfl]
theorem x1e {r:Bs} (hr:r.length < 2):uns (37::r)=none:=by
 match r with
 | []=>simp [uns]
 | [d]=>simp [uns]
theorem y07 {P:Bs→Prop} (h0:P []) (h1:∀ r:Bs,uns (37::r)=none→(∀ plus,dec plus (37::r)=none)→unH r=false→P (37::r)) (h2_:∀ (a b:UInt8) (t:Bs),(isH a && isH b)=true→P t→P (37::a::b::t)) (h3:∀ (c:UInt8) (r:Bs),c≠37→P r→P (c::r)):∀ s,P s:=by
 have key:∀ (n:Nat) (s:Bs),s.length≤n→P s:=by
  intro n
  induction n with
  | zero=>intro s h; obtain rfl:s=[]:=List.length_eq_zero_iff.1 (by omega); exact h0
  | succ n ih =>
   intro s h
   match s with
   | []=>exact h0
   | c::r =>
    simp only [List.length_cons] at h
    by_cases hc:c=37
    ·subst hc
     match r with
     | []=>exact h1 _ (x1e (by simp)) (fun p=>z63 p (by simp)) rfl
     | [d]=>exact h1 _ (x1e (by simp)) (fun p=>z63 p (by simp)) rfl
     | a::b::t =>
      cases hh:isH a && isH b
      ·exact h1 _ (by rw [z7m,hh]; rfl) (fun p=>by rw [uq,hh]; rfl) hh
      ·exact h2_ a b t hh (ih t (by simp only [List.length_cons] at h; omega))
    ·exact h3 c r hc (ih r (by omega))
 exact fun s=>key s.length s (Nat.le_refl _)
theorem x8b (s:Bs):dec false s=(uns s).map (List.map (·.1)):=by
 refine y07 (P:=fun s=>dec false s=(uns s).map (List.map (·.1))) rfl (fun r h1 h2 _=>by rw [h1,h2]; rfl) (fun a b t hh ih => ?_) (fun c r hc ih => ?_) s
 ·rw [uq,z7m,hh,if_pos rfl,if_pos rfl,ih]
  cases uns t <;> simp
 ·rw [Zj false hc,z7n hc,ih]
  have hpl:pl false c=c:=by unfold pl; rw [if_neg (by simp)]
  rw [hpl]
  cases uns r <;> simp
theorem x1f (s:Bs):∀ u,uns s=some u→u.length≤s.length:=by
 refine y07 (P:=fun s=>∀ u,uns s=some u→u.length≤s.length) (fun u h=>by cases h; simp) (fun r h1 h2 _ u h=>by rw [h1] at h; cases h) (fun a b t hh ih u h => ?_) (fun c r hc ih u h => ?_) s
 ·rw [z7m,hh,if_pos rfl] at h
  cases hq:uns t with
  | none=>rw [hq] at h; cases h
  | some e=>rw [hq] at h; cases h; have:=ih e hq; simp only [List.length_cons]; omega
 ·rw [z7n hc] at h
  cases hq:uns r with
  | none=>rw [hq] at h; cases h
  | some e=>rw [hq] at h; cases h; have:=ih e hq; simp only [List.length_cons]; omega
def mkU (p:UInt8×Bool):vo:=vo.mk (p.1.toNat:Int) p.2
theorem x98 (s:Bs):∀ (l:List vo),l.length+s.length≤100000000 →
  iter (fun (q:Bs×(List vo))=>xm q.1 q.2) (s,l)=some (match uns s with | some u=>(l++u.map mkU,true) | none=>([],false)):=by
 refine y07 (P:=fun s=>∀ (l:List vo),l.length+s.length≤100000000 →
  iter (fun (q:Bs×(List vo))=>xm q.1 q.2) (s,l)=some (match uns s with | some u=>(l++u.map mkU,true) | none=>([],false))) ?_ ?_ ?_ ?_ s
 ·intro l h
  rw [kv (body:=fun (q:Bs×(List vo))=>xm q.1 q.2) (s:=([],l)) (r:=(l,true)) rfl]
  simp [uns]
 ·intro r h1 _ hb l h
  rw [h1]
  refine kv (body:=fun (q:Bs×(List vo))=>xm q.1 q.2) (s:=(37::r,l)) ?_
  have hne:decide ((37:UInt8)::r≠[])=true:=by simp
  show xm (37::r) l=_
  unfold xm
  rw [if_pos hne]
  simp only [List.getElem?_cons_zero,Option.bind_some]
  rw [if_neg (by decide)]
  match r with
  | []=>rw [if_pos (by simp)]
  | [d]=>rw [if_pos (by simp)]
  | a::b::t =>
   have hs13:sub? ((37:UInt8)::a::b::t) 1 3=some [a,b]:=by
    unfold sub?
    rw [if_pos (by simp only [List.length_cons]; omega)]; rfl
   have hb:(isH a && isH b)=false:=hb
   rw [if_neg (by simp only [List.length_cons]; simp; omega),hs13]
   simp only [Option.bind_some]
   rw [pu2,hb]; rfl
 ·intro a b t hh ih l h
  have hne:decide ((37:UInt8)::a::b::t≠[])=true:=by simp
  have hlen3:¬ decide ((((37:UInt8)::a::b::t).length:Int) < 3)=true:=by simp only [List.length_cons]; simp; omega
  have hs13:sub? ((37:UInt8)::a::b::t) 1 3=some [a,b]:=by
   unfold sub?
   rw [if_pos (by simp only [List.length_cons]; omega)]; rfl
  have ha:hx a < 16:=by simp [isH] at hh; exact hh.1
  have hb2:hx b < 16:=by simp [isH] at hh; exact hh.2
  simp only [List.length_cons] at h
  have hs:xm ((37:UInt8)::a::b::t) l=some (.inl (t,l++[vo.mk ((h2 a b).toNat:Int) false])):=by
   have hs3:sub? ((37:UInt8)::a::b::t) 3 (((37:UInt8)::a::b::t).length:Int)=some t:=by
    unfold sub?
    rw [if_pos (by simp only [List.length_cons]; omega),List.take_of_length_le (by simp only [List.length_drop]; omega)]; rfl
   unfold xm
   rw [if_pos hne]
   simp only [List.getElem?_cons_zero,Option.bind_some]
   rw [if_neg (by decide),if_neg hlen3,hs13]
   simp only [Option.bind_some]
   rw [pu2,hh]
   simp only [if_true,Option.bind_some,ne_eq,not_true_eq_false,decide_false,Bool.false_eq_true,if_false]
   rw [if_pos (by omega),hs3]
   first | rfl | (simp only [Option.bind_some]; congr 5; unfold IntKind.wrap h2; simp [IntKind.bits,IntKind.signed])
  rw [Zi (body:=fun (q:Bs×(List vo))=>xm q.1 q.2) (s:=(37::a::b::t,l)) hs,ih _ (by simp; omega),z7m,hh,if_pos rfl]
  cases uns t <;> simp [mkU]
 ·intro c r hc ih l h
  simp only [List.length_cons] at h
  have hne:decide (c::r≠[])=true:=by simp
  have hs:xm (c::r) l=some (.inl (r,l++[vo.mk (c.toNat:Int) true])):=by
   have hs1:sub? (c::r) 1 ((c::r).length:Int)=some r:=by
    unfold sub?
    rw [if_pos (by simp only [List.length_cons]; omega),List.take_of_length_le (by simp only [List.length_drop]; omega)]; rfl
   have hcn:(c.toNat:Int)≠37:=fun h=>hc (UInt8.toNat_inj.1 (by simp; omega))
   unfold xm
   rw [if_pos hne]
   simp only [List.getElem?_cons_zero,Option.bind_some]
   rw [if_pos (by simpa using hcn),if_pos (by omega),hs1]
   rfl
  rw [Zi (body:=fun (q:Bs×(List vo))=>xm q.1 q.2) (s:=(c::r,l)) hs,ih _ (by simp; omega),z7n hc]
  cases uns r <;> simp [mkU]
theorem y5r (s:Bs) (h:s.length≤100000000):z5u s=some (match uns s with | some u=>(u.map mkU,true) | none=>([],false)):=by
 unfold z5u
 have:=x98 s [] (by simpa using h)
 simpa using this
def sg1 (st:List Bs) (x:Bs):List Bs:=if x=[46] then st else if x=[46,46] then st.dropLast else st++[x]
def sgL (st:List Bs) (x:Bs):List Bs:=if x=[46] then st++[[]] else if x=[46,46] then st.dropLast++[[]] else st++[x]
def fwS:List Bs→List Bs→List Bs
 | st,[]=>st
 | st,[x]=>sgL st x
 | st,x::y::l=>fwS (sg1 st x) (y::l)
def bkS:List Bs→Nat→List Bs→List Bs
 | [],_,out=>out
 | x::r,k,out=>if x=[46] then bkS r k out else if x=[46,46] then bkS r (k+1) out else if 0 < k then bkS r (k - 1) out else bkS r 0 (out++[x])
def bkF (x:Bs) (r:List Bs):List Bs:=if x=[46] then bkS r 0 [[]] else if x=[46,46] then bkS r 1 [[]] else bkS r 0 [x]
theorem x7p:∀ (p:List Bs) (x:Bs) (st:List Bs),fwS st (p++[x])=sgL (p.foldl sg1 st) x
 | [],x,st=>rfl
 | [y],x,st=>rfl
 | y::z::p,x,st=>x7p (z::p) x (sg1 st y)
theorem y44:∀ (r:List Bs) (k:Nat) (out:List Bs),bkS r k out=out++((r.reverse.foldl sg1 []).take ((r.reverse.foldl sg1 []).length - k)).reverse
 | [],k,out=>by simp [bkS]
 | x::r,k,out=>by
  have e:(x::r).reverse.foldl sg1 []=sg1 (r.reverse.foldl sg1 []) x:=by simp [List.foldl_append]
  rw [e]
  generalize hF:r.reverse.foldl sg1 []=F
  have ih:=fun k out=>y44 r k out
  simp only [hF] at ih
  unfold bkS sg1
  by_cases h1:x=[46]
  ·rw [if_pos h1,if_pos h1,ih]
  ·rw [if_neg h1,if_neg h1]
   by_cases h2:x=[46,46]
   ·rw [if_pos h2,if_pos h2,ih,List.dropLast_eq_take,List.length_take,List.take_take]
    congr 3
    omega
   ·rw [if_neg h2,if_neg h2]
    by_cases h3:0 < k
    ·rw [if_pos h3,ih]
     congr 2
     rw [List.length_append,List.length_singleton,List.take_append_of_le_length (by omega)]
     congr 1; omega
    ·rw [if_neg h3,ih]
     obtain rfl:k=0:=by omega
     rw [Nat.sub_zero,Nat.sub_zero,List.take_length,List.take_length]
     simp
theorem v1k (p:List Bs) (x:Bs):(bkF x p.reverse).reverse=fwS [] (p++[x]):=by
 rw [x7p]
 unfold bkF sgL
 split
 ·rw [y44]; simp
 ·split
  ·rw [y44]; simp [List.dropLast_eq_take]
  ·rw [y44]; simp
theorem w3b {st:List Bs} {x y:Bs} (h:y∈sg1 st x):y∈st∨y=x:=by
 unfold sg1 at h
 split at h
 ·exact .inl h
 ·split at h
  ·exact .inl (List.dropLast_subset _ h)
  ·rcases List.mem_append.1 h with h | h
   ·exact .inl h
   ·exact .inr (by simpa using h)
theorem w29 {st:List Bs} {x y:Bs} (h:y∈sgL st x):y∈st∨y=x∨y=[]:=by
 unfold sgL at h
 split at h
 ·rcases List.mem_append.1 h with h | h
  ·exact .inl h
  ·exact .inr (.inr (by simpa using h))
 ·split at h
  ·rcases List.mem_append.1 h with h | h
   ·exact .inl (List.dropLast_subset _ h)
   ·exact .inr (.inr (by simpa using h))
  ·rcases List.mem_append.1 h with h | h
   ·exact .inl h
   ·exact .inr (.inl (by simpa using h))
theorem x3j (st:List Bs) (x:Bs):(sg1 st x).length≤st.length+1:=by
 unfold sg1
 split
 ·omega
 ·split
  ·simp; omega
  ·simp
theorem w3a (st:List Bs) (x:Bs):(sgL st x).length≤st.length+1:=by
 unfold sgL
 split
 ·simp
 ·split
  ·simp
  ·simp
theorem x7n {B:Nat}:∀ (l st:List Bs),(∀ y,y∈st→y.length≤B)→(∀ y,y∈l→y.length≤B)→∀ y,y∈fwS st l→y.length≤B
 | [],st,h1,_,y,h=>h1 y h
 | [x],st,h1,h2,y,h=>by
  rcases w29 h with h | rfl | rfl
  ·exact h1 y h
  ·exact h2 y (by simp)
  ·simp
 | x::z::l,st,h1,h2,y,h=>by
  refine x7n (z::l) (sg1 st x) (fun y h => ?_) (fun y h=>h2 y (by simp at h ⊢; exact .inr h)) y h
  rcases w3b h with h | rfl
  ·exact h1 y h
  ·exact h2 y (by simp)
theorem x7o:∀ (l st:List Bs),(fwS st l).length≤st.length+l.length
 | [],st=>by simp [fwS]
 | [x],st=>w3a st x
 | x::z::l,st=>by
  have h1:=x7o (z::l) (sg1 st x)
  have h2:=x3j st x
  show (fwS (sg1 st x) (z::l)).length≤_
  simp only [List.length_cons] at h1 ⊢
  omega
noncomputable def frU (c:UInt8):Bool:=decide (Yk (c.toNat:Int)=some true)
noncomputable def pcU (c:UInt8):Bs:=(Yi (c.toNat:Int)).getD []
theorem w0a (c:UInt8):Yk (c.toNat:Int)=some (frU c):=by
 have:=jg (fun c=>decide (Yk (c.toNat:Int)=some (frU c))) (by decide +kernel) c
 exact of_decide_eq_true this
theorem z7l (c:UInt8):Yi (c.toNat:Int)=some (pcU c)∧(pcU c).length=3:=by
 have:=jg (fun c=>decide (Yi (c.toNat:Int)=some (pcU c)∧(pcU c).length=3)) (by decide +kernel) c
 exact of_decide_eq_true this
theorem w0b (c:UInt8):z5v (c.toNat:Int)=some (pcU c):=by
 have:=jg (fun c=>decide (z5v (c.toNat:Int)=some (pcU c))) (by decide +kernel) c
 exact of_decide_eq_true this
abbrev plL:Bs:=[97,98,99,100,101,102,103,104,105,106,107,108,109,110,111,112,113,114,115,116,117,118,119,120,121,122,65,66,67,68,69,70,71,72,73,74,75,76,77,78,79,80,81,82,83,84,85,86,87,88,89,90,48,49,50,51,52,53,54,55,56,57,45,46,95,126]
theorem x95 (c:UInt8):(encL (IntKind.wrap .i32 (c.toNat:Int))).length≤4∧(((encL (IntKind.wrap .i32 (c.toNat:Int))).all fun d=>plL.contains d) && decide ((c.toNat:Int) < 128))=frU c:=by
 have:=jg (fun c=>decide ((encL (IntKind.wrap .i32 (c.toNat:Int))).length≤4∧(((encL (IntKind.wrap .i32 (c.toNat:Int))).all fun d=>plL.contains d) && decide ((c.toNat:Int) < 128))=frU c)) (by decide +kernel) c
 exact of_decide_eq_true this
noncomputable def nU (p:UInt8×Bool):Bs:=if p.2 || frU p.1 then [p.1] else pcU p.1
noncomputable def nrm (u:List (UInt8×Bool)):Bs:=u.flatMap nU
theorem y7m (p:UInt8×Bool):(nU p).length≤3:=by
 unfold nU
 split
 ·simp
 ·rw [(z7l p.1).2]; exact Nat.le_refl _
theorem w4z (u:List (UInt8×Bool)):(nrm u).length≤3 * u.length:=by
 induction u with
 | nil=>simp [nrm]
 | cons c s ih =>
  unfold nrm at ih ⊢
  have:=y7m c
  rw [List.flatMap_cons,List.length_append,List.length_cons]
  omega
theorem w43 (s:Bs) (hl:s.length≤100000000):∀ t:Bs,∀ (i:Nat) (x:Bs),s.drop i=t→i≤s.length→x.length≤i →
  iter (fun (q:Int×(List Int))=>un s q.1 q.2) ((i:Int),yk x)=some (match uns t with | some u=>(x++nrm u,true) | none=>([],false)):=by
 refine y07 ?_ ?_ ?_ ?_
 ·intro i x hd hi hx
  have:s.length≤i:=by simpa using hd
  obtain rfl:i=s.length:=by omega
  rw [kv (body:=fun (q:Int×(List Int))=>un s q.1 q.2) (s:=((s.length:Int),yk x)) (r:=(x,true))]
  ·simp [uns,nrm]
  ·unfold un z8o
   rw [if_neg (by simp),if_pos (y0x x),Wt]; rfl
 ·intro r h1 _ hb i x hd hi hx
  obtain ⟨g1,g2⟩:=z1b hd
  have hu:=y9e hd hl
  rw [hb] at hu
  rw [h1]
  refine kv (body:=fun (q:Int×(List Int))=>un s q.1 q.2) (s:=((i:Int),yk x)) ?_
  show un s (i:Int) (yk x)=_
  unfold un
  rw [if_pos (by simp; omega),g1]
  simp only [Option.bind_some]
  rw [if_neg (by decide),hu]
  rfl
 ·intro a b t hh ih i x hd hi hx
  obtain ⟨g1,g2⟩:=z1b hd
  have g3:=Yu hd
  have g4:=Yu (Yu g3)
  simp only [List.length_cons] at g2
  have hu:z0k s (i:Int)=some (isH a && isH b):=y9e hd hl
  have hun:=x1g hd hl hh
  have hlen:(yk x).length+1≤1000000000:=by rw [Zo]; omega
  have hs:un s (i:Int) (yk x)=some (.inl (((i+3:Nat):Int),yk (x++nU (h2 a b,false)))):=by
   unfold un z4t z1y
   rw [if_pos (by simp; omega),g1]
   simp only [Option.bind_some]
   rw [if_neg (by decide),hu,hh]
   simp only [Option.bind_some,Bool.not_true,Bool.false_eq_true,if_false,hun,w0a]
   have hw:wr (wr ((i:Int)+2)+1)=((i+3:Nat):Int):=by
    rw [qc (n:=(i:Int)+2) (by omega),qc (by omega)]; omega
   rw [hw]
   unfold nU
   cases frU (h2 a b)
   ·simp only [Bool.false_eq_true,if_false,Bool.or_false]
    rw [(z7l _).1]
    simp only [Option.bind_some]
    unfold kk
    rw [if_pos (by rw [Zo,(z7l _).2]; omega)]
    simp only [Option.bind_some,xb]
   ·simp only [if_true,Bool.or_true]
    rw [z1d _ _ hlen]
    simp only [Option.bind_some,xb]; rfl
  have hn:=y7m (h2 a b,false)
  rw [Zi (body:=fun (q:Int×(List Int))=>un s q.1 q.2) (s:=((i:Int),yk x)) hs,ih (i+3) _ g4 (by omega) (by simp; omega),z7m,hh]
  simp only [if_true]
  cases uns t <;> simp [nrm]
 ·intro c r hc ih i x hd hi hx
  obtain ⟨g1,g2⟩:=z1b hd
  have g3:=Yu hd
  have hlen:(yk x).length+1≤1000000000:=by rw [Zo]; omega
  have hs:un s (i:Int) (yk x)=some (.inl (((i+1:Nat):Int),yk (x++[c]))):=by
   unfold un z1y
   rw [if_pos (by simp; omega),g1]
   simp only [Option.bind_some]
   rw [if_pos (by
    have:(c.toNat:Int)≠37:=fun h=>hc (UInt8.toNat_inj.1 (by simp; omega))
    simpa using this),z1d _ _ hlen]
   have hw:wr ((i:Int)+1)=((i+1:Nat):Int):=by rw [qc (by omega)]; omega
   simp only [Option.bind_some,hw,xb]; rfl
  rw [Zi (body:=fun (q:Int×(List Int))=>un s q.1 q.2) (s:=((i:Int),yk x)) hs,ih (i+1) _ g3 (by omega) (by simp; omega),z7n hc]
  cases uns r <;> simp [nrm,nU]
theorem w42 (s:Bs) (hl:s.length≤100000000):z2h s=some (match uns s with | some u=>(nrm u,true) | none=>([],false)):=by
 unfold z2h
 have:=w43 s hl s 0 [] (by simp) (by omega) (by simp)
 simpa [yk] using this
theorem w4a (k:Nat) (p:UInt8×Bool) (v:Bs) (h:v.length≤100000000):y0n k (mkU p) v=some (.inl (v++nU p)):=by
 obtain ⟨c,b⟩:=p
 have e1:strN [(c.toNat:Int)]=[c]:=Wt [c]
 have hJ:∀ b:Bool,z6s v (mkU (c,false)) b=some (.inl (v++if b then [c] else pcU c)):=fun b=>by
  unfold z6s y4h mkU
  cases b
  ·simp only [Bool.false_eq_true,if_false]
   rw [w0b]
   simp only [Option.bind_some]
   rw [if_pos (by rw [(z7l c).2]; omega)]
  ·simp only [if_true,e1]
   rw [if_pos (by simp; omega)]
 unfold y0n
 cases b
 ·obtain ⟨q1,q2⟩:=x95 c
  have hcf:(mkU (c,false)).c_=(c.toNat:Int):=rfl
  have hpf:(mkU (c,false)).plain_=false:=rfl
  rw [hpf,hcf]
  simp only [Bool.false_eq_true,if_false]
  rw [z4o _ _ (by omega)]
  simp only [Option.bind_some]
  rw [hJ,hJ]
  unfold nU
  simp only [Bool.false_or]
  rw [← q2]
  cases (encL (IntKind.wrap .i32 (c.toNat:Int))).all fun d=>plL.contains d <;> simp
 ·have hpf:(mkU (c,true)).plain_=true:=rfl
  rw [hpf]
  simp only [if_true]
  unfold z6s y4h mkU
  simp only [if_true,e1]
  rw [if_pos (by simp; omega)]
  simp [nU]
theorem refL (F:Bs→Option (Bs×Int)):∀ (u:List (UInt8×Bool)) (k:Nat) (v:Bs),v.length+3 * u.length≤100000000 →
  forL (fun (k:Nat) (x:vo) (s:Bs)=>y0n k x s) F k (u.map mkU) v=F (v++nrm u)
 | [],k,v,h=>by simp [nrm,forL]
 | p::u,k,v,h=>by
  simp only [List.length_cons] at h
  have:=y7m p
  show (y0n k (mkU p) v).bind _=_
  rw [w4a k p v (by omega)]
  simp only [Option.bind_some,after]
  rw [refL F u (k+1) _ (by simp; omega)]
  simp [nrm]
theorem z8j (l:List Bs) (G:List Bs→Option (Bs×Int)) (hl:l.length≤10000000):∀ (n c:Nat) (out:List Bs),n < l.length→c+n≤100000000→out.length+n≤100000000 →
  back (fun (k:Nat) (x:Bs) (s:Int×(List Bs))=>z6r l k x s.1 s.2) (fun (s:Int×(List Bs))=>G s.2) l n ((c:Int),out)=G (bkS (l.take n).reverse c out)
 | 0,c,out,_,_,_=>by simp [back,bkS]
 | n+1,c,out,h1,h2,h3=>by
  obtain ⟨x,hx⟩:∃ x,l[n]?=some x:=⟨_,List.getElem?_eq_getElem (by omega)⟩
  have e:(l.take (n+1)).reverse=x::(l.take n).reverse:=by
   rw [List.take_add_one,hx]; simp
  rw [e]
  show (l[n]?).bind _=_
  rw [hx]
  simp only [Option.bind_some]
  have hk:decide ((n:Int)=wr ((l.length:Int) - 1))=false:=by
   rw [qc (by omega)]; simp; omega
  unfold bkS z6r y4i
  rw [hk]
  simp only [Bool.false_eq_true,if_false]
  by_cases x1:x=[46]
  ·have x2:x≠[46,46]:=by rw [x1]; simp
   rw [if_pos (by simp [x1]),if_neg (by simpa using x2),if_pos x1]
   exact z8j l G hl n c out (by omega) (by omega) (by omega)
  ·by_cases x2:x=[46,46]
   ·rw [if_pos (by simp [x2]),if_pos (by simpa using x2),if_neg x1,if_pos x2,qc (by omega)]
    exact z8j l G hl n (c+1) out (by omega) (by omega) (by omega)
   ·rw [if_neg (by simp [x1,x2]),if_neg x1,if_neg x2]
    by_cases hc:0 < c
    ·rw [if_pos (by simp; omega),if_pos hc,qc (by omega),show ((c:Int) - 1)=((c - 1:Nat):Int) by omega]
     exact z8j l G hl n (c - 1) out (by omega) (by omega) (by omega)
    ·obtain rfl:c=0:=by omega
     rw [if_neg (by simp),if_neg hc,if_pos (by omega)]
     exact z8j l G hl n 0 (out++[x]) (by omega) (by omega) (by simp; omega)
theorem refB (p:List Bs) (x:Bs) (G:List Bs→Option (Bs×Int)) (hl:p.length≤1000000) (n:Nat) (hn:n=p.length+1) :
  back (fun (k:Nat) (x_1:Bs) (s:Int×(List Bs))=>z6r (p++[x]) k x_1 s.1 s.2) (fun (s:Int×(List Bs))=>G s.2) (p++[x]) n (0,[])=G (bkF x p.reverse):=by
 subst hn
 have e0:(p++[x]).length=p.length+1:=by simp
 show ((p++[x])[p.length]?).bind _=_
 rw [List.getElem?_append_right (Nat.le_refl _),Nat.sub_self]
 show (z6r (p++[x]) p.length x 0 []).bind _=_
 have hk:decide ((p.length:Int)=wr (((p++[x]).length:Int) - 1))=true:=by
  rw [e0,qc (by omega)]; simp
 have hB:=z8j (p++[x]) G (by omega) p.length
 have ht:(p++[x]).take p.length=p:=by simp
 rw [ht] at hB
 unfold z6r y4i bkF
 rw [hk]
 simp only [if_true]
 by_cases x1:x=[46]
 ·have x2:x≠[46,46]:=by rw [x1]; simp
  rw [if_pos (by simp [x1]),if_pos (by simp),if_neg (by simpa using x2),if_pos x1]
  exact hB 0 [[]] (by omega) (by omega) (by simp; omega)
 ·by_cases x2:x=[46,46]
  ·rw [if_pos (by simp [x2]),if_pos (by simp),if_pos (by simpa using x2),if_neg x1,if_pos x2,qc (by omega)]
   exact hB 1 [[]] (by omega) (by omega) (by simp; omega)
  ·rw [if_neg (by simp [x1,x2]),if_neg x1,if_neg x2,if_neg (by simp),if_pos (by simp)]
   exact hB 0 [x] (by omega) (by omega) (by simp; omega)
theorem prgL (tot:List Bs) (G:List Bs→Option (Bs×Int)) (ht:tot.length≤1000000):∀ (l:List Bs) (k:Nat) (st:List Bs),k+l.length=tot.length→st.length+l.length≤10000000 →
  forL (fun (k:Nat) (x:Bs) (s:(List Bs))=>z18 tot k x s) G k l st=G (fwS st l)
 | [],k,st,_,_=>rfl
 | x::l,k,st,h1,h2=>by
  simp only [List.length_cons] at h1 h2
  show (z18 tot k x st).bind _=_
  have hmx:max (wr ((st.length:Int) - 1)) 0=((st.length - 1:Nat):Int):=by
   rw [qc (by omega)]; omega
  have hk:decide ((k:Int)=wr ((tot.length:Int) - 1))=decide (l=[]):=by
   rw [qc (by omega)]
   cases l with
   | nil=>simp at h1; simp; omega
   | cons a l=>simp at h1; simp; omega
  have hdl:st.take (st.length - 1)=st.dropLast:=(List.dropLast_eq_take).symm
  unfold z18 z48 z19
  rw [hmx,hk,Int.toNat_natCast,hdl]
  have hg:(0:Int)≤((st.length - 1:Nat):Int)∧((st.length - 1:Nat):Int)≤(st.length:Int):=by omega
  match l with
  | [] =>
   simp only [decide_true,if_true]
   show _=G (sgL st x)
   unfold sgL
   by_cases x1:x=[46]
   ·rw [if_pos (by simpa using x1),if_pos x1,if_pos (by omega)]; rfl
   ·by_cases x2:x=[46,46]
    ·rw [if_neg (by simpa using x1),if_pos (by simpa using x2),if_neg x1,if_pos x2,if_pos hg,if_pos (by simp; omega)]; rfl
    ·rw [if_neg (by simpa using x1),if_neg (by simpa using x2),if_neg x1,if_neg x2,if_pos (by omega)]; rfl
  | y::l =>
   have hn:decide (y::l=[])=false:=by simp
   rw [hn]
   simp only [Bool.false_eq_true,if_false]
   show _=G (fwS (sg1 st x) (y::l))
   have hs1:=x3j st x
   rw [← prgL tot G ht (y::l) (k+1) (sg1 st x) (by simp only [List.length_cons] at h1 ⊢; omega) (by simp only [List.length_cons] at h2 ⊢; omega)]
   unfold sg1
   by_cases x1:x=[46]
   ·rw [if_pos (by simpa using x1),if_pos x1]; rfl
   ·by_cases x2:x=[46,46]
    ·rw [if_neg (by simpa using x1),if_pos (by simpa using x2),if_neg x1,if_pos x2,if_pos hg]; rfl
    ·rw [if_neg (by simpa using x1),if_neg (by simpa using x2),if_neg x1,if_neg x2,if_pos (by omega)]; rfl
theorem w4p (q:List Bs) (h:q.length≤100000) (hB:∀ y,y∈q→y.length≤9000):∃ j:Bs,j.length≤1000000000∧z5a q=some (47::j,0)∧∀ c:Int,y4j c q.reverse=some (47::j,0)∧j=Lib.join q [47]:=by
 have hj:=z0x 9000 [47] q hB
 have hj2:(Lib.join q [47]).length≤100000 * 9001:=Nat.le_trans hj (Nat.mul_le_mul h (by simp))
 refine ⟨Lib.join q [47],by omega,?_,fun c=>⟨?_,rfl⟩⟩
 ·unfold z5a ji
  rw [if_pos (by omega)]
  simp only [Option.bind_some]
  rw [if_pos (by simp; omega)]; rfl
 ·unfold y4j x46 ji
  rw [if_pos (by simp; omega),List.reverse_reverse]
  simp only [Option.bind_some]
  rw [if_pos (by omega)]
  simp only [Option.bind_some]
  rw [if_pos (by simp; omega)]; rfl
noncomputable def npF (s:Bs):Bs×Int:=if pthB s then (match uns s with | some u=>(47::Lib.join (fwS [] (spl 47 ((nrm u).drop 1))) [47],0) | none=>([],9)) else ([],3)
theorem w2w (s:Bs):∃ p x,spl 47 s=p++[x]:=by
 have:=x3c 47 s
 exact ⟨(spl 47 s).dropLast,(spl 47 s).getLast this,(List.dropLast_concat_getLast this).symm⟩
theorem y7g (s:Bs) (hs:s.length≤100000):Qs s=some (npF s)∧y8b s=some (npF s):=by
 unfold Qs y8b npF
 rw [z8l s (by omega),x4j s (by omega)]
 simp only [Option.bind_some]
 cases hp:pthB s
 ·exact ⟨rfl,rfl⟩
 have hp1:(s.length:Int)≤1000:=by
  unfold pthB at hp
  simp only [Bool.and_eq_true,decide_eq_true_eq] at hp
  exact hp.1
 rw [w42 s (by omega),y5r s (by omega)]
 simp only [Bool.not_true,Bool.false_eq_true,if_false,if_true,Option.bind_some,ne_eq,not_true_eq_false,decide_false]
 cases hu:uns s with
 | none=>exact ⟨rfl,rfl⟩
 | some u =>
  simp only [Bool.not_true,Bool.false_eq_true,if_false]
  have hul:=x1f s u hu
  have hnl:=w4z u
  have hu1:1≤(nrm u).length:=by
   cases u with
   | nil =>
    exfalso
    cases s with
    | nil=>simp [pthB,Lib.hasPrefix] at hp
    | cons c r =>
     by_cases hc:c=37
     ·subst hc
      simp [pthB,Lib.hasPrefix] at hp
     ·rw [z7n hc] at hu
      cases hq:uns r with
      | none=>rw [hq] at hu; cases hu
      | some e=>rw [hq] at hu; cases hu
   | cons p u =>
    unfold nrm nU
    rw [List.flatMap_cons,List.length_append]
    have:1≤(if (p.2 || frU p.1)=true then [p.1] else pcU p.1).length:=by
     split
     ·simp
     ·rw [(z7l p.1).2]; omega
    omega
  have hsub:sub? (nrm u) 1 ((nrm u).length:Int)=some ((nrm u).drop 1):=by
   unfold sub?
   rw [if_pos (by omega),List.take_of_length_le (by simp)]; rfl
  have hsp:vz ((nrm u).drop 1) [47]=some (spl 47 ((nrm u).drop 1)):=by
   unfold vz
   rw [if_pos ⟨by simp; omega,by simp⟩,Wv]
  have hll:=z1r 47 ((nrm u).drop 1)
  simp only [List.length_drop] at hll
  have hpc:∀ y,y∈spl 47 ((nrm u).drop 1)→y.length≤9000:=fun y hy=>by
   have:=Ww 47 _ y hy
   simp only [List.length_drop] at this
   omega
  obtain ⟨p,x,hpx⟩:=w2w ((nrm u).drop 1)
  have hfl:=x7o (spl 47 ((nrm u).drop 1)) []
  simp only [List.length_nil] at hfl
  obtain ⟨j,hj1,hj2,hj3⟩:=w4p (fwS [] (spl 47 ((nrm u).drop 1))) (by omega) (x7n _ [] (by simp) hpc)
  have hjj:=(hj3 0).2
  constructor
  ·rw [hsub]
   simp only [Option.bind_some]
   rw [hsp]
   simp only [Option.bind_some]
   rw [if_pos (by omega),prgL _ _ (by omega) _ 0 [] (by omega) (by simp only [List.length_nil]; omega),hj2,hjj]
  ·rw [if_pos (by simp only [List.length_map]; omega),refL _ u 0 [] (by simp only [List.length_nil]; omega)]
   show y9r (nrm u)=_
   unfold y9r
   rw [hsub]
   simp only [Option.bind_some]
   rw [hsp]
   simp only [Option.bind_some]
   rw [if_pos (by omega)]
   have hB:=refB p x (fun l=>y4j 0 l) (by
    have:=congrArg List.length hpx
    simp only [List.length_append,List.length_singleton] at this
    omega) (spl 47 ((nrm u).drop 1)).length (by rw [hpx]; simp)
   rw [← hpx] at hB
   have hr:bkF x p.reverse=(fwS [] (spl 47 ((nrm u).drop 1))).reverse:=by
    rw [hpx,← v1k,List.reverse_reverse]
   rw [hr] at hB
   rw [← hjj,← (hj3 0).1]
   exact hB
def dcB (x:Bs):Bs:=(dec false x).getD []
theorem v2d (x:Bs) (h:x.length≤10000000):∃ b,z0m x false=some (dcB x,b):=by
 rw [x8a x false (by omega)]
 unfold dcB
 cases dec false x with
 | none=>exact ⟨false,rfl⟩
 | some d=>exact ⟨true,rfl⟩
theorem x8w:∀ (u:List (UInt8×Bool)) (k:Nat) (x:Bs),x.length+u.length≤900000000 →
  forL (fun (k:Nat) (x:vo) (s:(List Int))=>y0h k x s) (fun (s:(List Int))=>y4d s) k (u.map mkU) (yk x)=some (x++u.map (·.1))
 | [],k,x,h=>by
  show y4d (yk x)=_
  unfold y4d
  rw [Wt]; simp
 | p::u,k,x,h=>by
  simp only [List.length_cons] at h
  show (y0h k (mkU p) (yk x)).bind _=_
  have e:y0h k (mkU p) (yk x)=some (.inl (yk (x++[p.1]))):=by
   unfold y0h
   rw [if_pos (by rw [Zo]; omega),xb]; rfl
  rw [e]
  simp only [Option.bind_some,after]
  rw [x8w u (k+1) _ (by simp; omega)]
  simp
theorem v1c (s:Bs) (h:s.length≤10000000):z9b s=some (dcB s):=by
 unfold z9b dcB
 rw [y5r s (by omega),x8b]
 simp only [Option.bind_some]
 cases hu:uns s with
 | none=>rfl
 | some u =>
  have hul:=x1f s u hu
  simp only [Option.map_some,Option.getD_some]
  rw [if_pos (by simp; omega)]
  exact (x8w u 0 [] (by simp; omega)).trans (by simp)
def vdQ (s:Bs):Bool:=(dec false s).isSome
theorem v0j:∀ (n:Nat) (s:Bs),s.length≤n→(dec true s).isSome=(dec false s).isSome:=by
 intro n
 induction n with
 | zero=>intro s h; obtain rfl:s=[]:=List.length_eq_zero_iff.1 (by omega); rfl
 | succ n ih =>
  intro s h
  rcases s with _ | ⟨c,r⟩
  ·rfl
  simp only [List.length_cons] at h
  by_cases hc:c=37
  ·subst hc
   rcases r with _ | ⟨a,_ | ⟨b,t⟩⟩
   ·rfl
   ·rfl
   ·simp only [List.length_cons] at h
    rw [uq,uq]
    split
    ·rw [Option.isSome_map,Option.isSome_map]; exact ih t (by omega)
    ·rfl
  ·rw [Zj _ hc,Zj _ hc,Option.isSome_map,Option.isSome_map]; exact ih r (by omega)
theorem x8d (c:UInt8) (hc:c≠37) (hh:isH c=false) (b:Bs):∀ (n:Nat) (a:Bs),a.length≤n→vdQ (a++c::b)=(vdQ a && vdQ b):=by
 intro n
 unfold vdQ
 induction n with
 | zero =>
  intro a h
  obtain rfl:a=[]:=List.length_eq_zero_iff.1 (by omega)
  rw [List.nil_append,Zj _ hc,Option.isSome_map]
  rfl
 | succ n ih =>
  intro a h
  rcases a with _ | ⟨x,r⟩
  ·rw [List.nil_append,Zj _ hc,Option.isSome_map]; rfl
  simp only [List.length_cons] at h
  rw [List.cons_append]
  by_cases hx:x=37
  ·subst hx
   rcases r with _ | ⟨y,_ | ⟨z,t⟩⟩
   ·rcases b with _ | ⟨b0,b⟩
    ·rfl
    ·rw [List.nil_append,uq,hh]; rfl
   ·rw [List.cons_append,List.nil_append,uq,hh,Bool.and_false]; rfl
   ·simp only [List.length_cons] at h
    rw [List.cons_append,List.cons_append,uq,uq]
    split
    ·rw [Option.isSome_map,Option.isSome_map]; exact ih t (by omega)
    ·rfl
  ·rw [Zj _ hx,Zj _ hx,Option.isSome_map,Option.isSome_map]; exact ih r (by omega)
theorem y1w (c:UInt8):∀ s:Bs,c ∉ s→spl c s=[s]
 | [],_=>rfl
 | x::s,h=>by
  have h1:x≠c:=fun e=>h (by simp [e])
  have h2:=y1w c s (fun e=>h (by simp [e]))
  unfold spl
  rw [if_neg h1,h2]
theorem y1x (c:UInt8) (q:Bs):∀ p:Bs,c ∉ p→spl c (p++c::q)=p::spl c q
 | [],_=>by
  rw [List.nil_append]
  conv=>lhs; unfold spl
  rw [if_pos rfl]
 | x::p,h=>by
  have h1:x≠c:=fun e=>h (by simp [e])
  have h2:=y1x c q p (fun e=>h (by simp [e]))
  rw [List.cons_append]
  conv=>lhs; unfold spl
  rw [if_neg h1,h2]
theorem x90 (c:UInt8) (hc:c≠37) (hh:isH c=false):∀ (n:Nat) (s:Bs),s.length≤n→vdQ s=(spl c s).all vdQ:=by
 intro n
 induction n with
 | zero=>intro s h; obtain rfl:s=[]:=List.length_eq_zero_iff.1 (by omega); rfl
 | succ n ih =>
  intro s h
  rcases z04 c s with h1 | ⟨p,q,rfl,h1⟩
  ·rw [y1w c s h1]; simp
  ·rw [y1x c q p h1,x8d c hc hh q p.length p (Nat.le_refl _),List.all_cons,ih q (by simp at h; omega)]
def rep (s:Bs):Bs:=s.flatMap fun c=>if c=43 then [37,50,48] else [c]
theorem y7a:∀ s:Bs,(43:UInt8) ∉ s→rep s=s
 | [],_=>rfl
 | x::s,h=>by
  have h1:x≠43:=fun e=>h (by simp [e])
  have h2:=y7a s (fun e=>h (by simp [e]))
  unfold rep at h2 ⊢
  rw [List.flatMap_cons,if_neg h1,h2]; rfl
theorem x38 (p q:Bs):rep (p++q)=rep p++rep q:=by unfold rep; rw [List.flatMap_append]
theorem z1s (c:UInt8) (s:Bs):rep (c::s)=(if c=43 then [37,50,48] else [c])++rep s:=by unfold rep; rw [List.flatMap_cons]
theorem repK:∀ (n:Nat) (s:Bs),s.length≤n→Lib.replaceK [43] [37,50,48] (Lib.count s [43]) s=rep s:=by
 intro n
 induction n with
 | zero=>intro s h; obtain rfl:s=[]:=List.length_eq_zero_iff.1 (by omega); rw [Lib.count_miss (by rfl)]; rfl
 | succ n ih =>
  intro s h
  rcases z04 43 s with h1 | ⟨p,q,rfl,h1⟩
  ·rw [Lib.count_miss (y31 43 s h1),y7a s h1]; rfl
  ·have hi:=y32 43 q p h1
   have hd:(p++43::q).drop (p.length+1)=q:=by rw [← List.drop_drop]; simp
   rw [Lib.count_hit (by simp) hi,Nat.add_comm 1,Lib.replaceK_hit _ _ _ _ _ hi]
   simp only [List.length_cons,List.length_nil,Nat.zero_add]
   rw [hd,ih q (by simp at h; omega),x38,z1s,y7a p h1]
   simp
theorem w34 (s:Bs):Lib.replaceAll s [43] [37,50,48]=rep s:=by
 unfold Lib.replaceAll Lib.replace Lib.replaceNum
 rw [if_neg (by decide),if_pos (.inl (by decide))]
 exact repK s.length s (Nat.le_refl _)
theorem y7b (s:Bs):(rep s).length≤3 * s.length:=by
 induction s with
 | nil=>simp [rep]
 | cons c s ih =>
  rw [z1s,List.length_append,List.length_cons]
  have:(if c=(43:UInt8) then ([37,50,48]:Bs) else [c]).length≤3:=by split <;> simp
  omega
theorem x37 (s:Bs) (h:(61:UInt8) ∉ s):(61:UInt8) ∉ rep s:=by
 unfold rep
 rw [List.mem_flatMap]
 rintro ⟨c,hc,hm⟩
 split at hm
 ·simp at hm
 ·have:61=c:=by simpa using hm
  exact h (this ▸ hc)
theorem x8e:∀ (n:Nat) (s:Bs),s.length≤n→vdQ s=true→dec false (rep s)=dec true s:=by
 intro n
 unfold vdQ
 induction n with
 | zero=>intro s h _; obtain rfl:s=[]:=List.length_eq_zero_iff.1 (by omega); rfl
 | succ n ih =>
  intro s h hv
  rcases s with _ | ⟨c,r⟩
  ·rfl
  simp only [List.length_cons] at h
  by_cases hc:c=37
  ·subst hc
   rcases r with _ | ⟨a,_ | ⟨b,t⟩⟩
   ·cases hv
   ·cases hv
   ·simp only [List.length_cons] at h
    rw [uq] at hv
    cases hh:isH a && isH b
    ·rw [hh] at hv; cases hv
    ·rw [hh] at hv
     simp only [if_true,Option.isSome_map] at hv
     have ha:a≠43:=fun e=>by rw [e] at hh; exact absurd hh (by simp [isH,hx])
     have hb:b≠43:=fun e=>by rw [e] at hh; exact absurd hh (by simp [isH,hx])
     rw [z1s,z1s,z1s,if_neg (by decide),if_neg ha,if_neg hb]
     simp only [List.cons_append,List.nil_append]
     rw [uq,uq,hh,ih t (by omega) hv]
  ·rw [Zj _ hc,Option.isSome_map] at hv
   rw [z1s,Zj _ hc]
   by_cases h43:c=43
   ·rw [if_pos h43]
    simp only [List.cons_append,List.nil_append]
    rw [uq,ih r (by omega) hv]
    have e1:(isH 50 && isH 48)=true:=by decide
    have e2:h2 50 48=pl true c:=by rw [h43]; decide
    rw [e1,e2]; rfl
   ·rw [if_neg h43]
    simp only [List.cons_append,List.nil_append]
    rw [Zj _ hc,ih r (by omega) hv]
    have:pl false c=pl true c:=by unfold pl; rw [if_neg (by simp),if_neg (by simp [h43])]
    rw [this]
theorem x8v (s:Bs) (h:s.length≤1000000):z9b s=some ((dec false s).getD []):=v1c s (by omega)
theorem x99 (s:Bs) (h:s.length≤1000000):∃ us,z5u s=some (us,vdQ s):=by
 rw [y5r s (by omega)]
 unfold vdQ
 rw [x8b]
 cases uns s with
 | none=>exact ⟨_,rfl⟩
 | some u=>exact ⟨_,rfl⟩
def prQ (x:Bs):zp:=⟨(dec true (Lib.cut x [61]).1).getD [],(dec true (Lib.cut x [61]).2.1).getD []⟩
theorem x0f (x:Bs):(Lib.cut x [61]).1.length≤x.length∧(Lib.cut x [61]).2.1.length≤x.length:=by
 rcases z04 61 x with h | ⟨p,q,rfl,h⟩
 ·rw [z64 61 x h]; simp
 ·rw [z3t 61 p q h]; simp; omega
theorem x8h (x:Bs):vdQ x=(vdQ (Lib.cut x [61]).1 && vdQ (Lib.cut x [61]).2.1):=by
 rcases z04 61 x with h | ⟨p,q,rfl,h⟩
 ·rw [z64 61 x h]
  simp [vdQ,dec]
 ·rw [z3t 61 p q h,x8d 61 (by decide) (by decide) q p.length p (Nat.le_refl _)]
theorem x8c (s:Bs) (h:s.length≤1000000):z0m s true=some ((dec true s).getD [],vdQ s):=by
 rw [x8a s true (by omega)]
 unfold vdQ
 rw [← v0j s.length s (Nat.le_refl _)]
 cases dec true s <;> rfl
theorem w4r (k:Nat) (x:Bs) (l:List zp) (hx:x.length≤100000) (hl:l.length+1≤1000000000):z16 k x l=if x=[] then some (.inl l) else if vdQ x=true then some (.inl (l++[prQ x])) else some (.inr ([],9)):=by
 obtain ⟨c1,c2⟩:=x0f x
 unfold z16 z47
 by_cases h0:x=[]
 ·rw [if_pos (by simpa using h0),if_pos h0]
 ·rw [if_neg (by simpa using h0),if_neg h0]
  unfold vq
  rw [if_pos (by omega)]
  simp only [Option.bind_some]
  rw [x8c _ (by omega)]
  simp only [Option.bind_some]
  rw [x8c _ (by omega)]
  simp only [Option.bind_some]
  rw [x8h x]
  cases vdQ (Lib.cut x [61]).1 <;> cases vdQ (Lib.cut x [61]).2.1 <;> simp [prQ,hl]
theorem w4q (k:Nat) (x:Bs) (l:List zp) (hx:x.length≤100000) (hv:vdQ x=true) (hl:l.length+1≤1000000000):y0m k x l=if x=[] then some (.inl l) else some (.inl (l++[prQ x])):=by
 obtain ⟨c1,c2⟩:=x0f x
 have hv2:=x8h x
 rw [hv] at hv2
 have hv2:=(Bool.and_eq_true _ _).mp hv2.symm
 have hcut:Lib.cut (rep x) [61]=(rep (Lib.cut x [61]).1,rep (Lib.cut x [61]).2.1,(Lib.cut x [61]).2.2):=by
  rcases z04 61 x with h | ⟨p,q,rfl,h⟩
  ·rw [z64 61 x h,z64 61 _ (x37 x h)]; rfl
  ·rw [z3t 61 p q h,x38,z1s,if_neg (by decide)]
   exact z3t 61 _ _ (x37 p h)
 unfold y0m y9q
 by_cases h0:x=[]
 ·rw [if_pos (by simpa using h0),if_pos h0]
 ·rw [if_neg (by simpa using h0),if_neg h0]
  have hr:=y7b x
  have hr1:=y7b (Lib.cut x [61]).1
  have hr2:=y7b (Lib.cut x [61]).2.1
  unfold y20
  rw [if_pos (by simp; omega),w34]
  simp only [Option.bind_some]
  unfold vq
  rw [if_pos (by omega),hcut]
  simp only [Option.bind_some]
  rw [x8v _ (by omega)]
  simp only [Option.bind_some]
  rw [x8v _ (by omega)]
  simp only [Option.bind_some]
  rw [if_pos hl,x8e _ _ (Nat.le_refl _) hv2.1,x8e _ _ (Nat.le_refl _) hv2.2]
  rfl
def prs (xs:List Bs):List zp:=(xs.filter fun x => !decide (x=[])).map prQ
theorem y8s:∀ (xs:List Bs) (k:Nat) (l:List zp),(∀ x,x∈xs→x.length≤100000)→l.length+xs.length≤1000000→forL (fun (k:Nat) (x:Bs) (s:(List zp))=>z16 k x s) (fun (s:(List zp))=>z0e s) k xs l=if xs.all vdQ=true then z0e (l++prs xs) else some ([],9)
 | [],k,l,_,_=>by simp [forL,prs]
 | x::xs,k,l,hx,hl=>by
  simp only [List.length_cons] at hl
  show (z16 k x l).bind _=_
  rw [w4r k x l (hx x (by simp)) (by omega)]
  by_cases h0:x=[]
  ·subst h0
   rw [if_pos rfl]
   simp only [Option.bind_some,after]
   rw [y8s xs (k+1) l (fun y hy=>hx y (by simp [hy])) (by omega)]
   simp [prs,vdQ,dec]
  ·rw [if_neg h0]
   cases hv:vdQ x
   ·simp [hv,after]
   ·simp only [if_true,Option.bind_some,after]
    rw [y8s xs (k+1) _ (fun y hy=>hx y (by simp [hy])) (by simp; omega)]
    simp [prs,hv,h0]
theorem y8r:∀ (xs:List Bs) (k:Nat) (l:List zp),(∀ x,x∈xs→x.length≤100000∧vdQ x=true)→l.length+xs.length≤1000000→forL (fun (k:Nat) (x:Bs) (s:(List zp))=>y0m k x s) (fun (s:(List zp))=>y4g s) k xs l=y4g (l++prs xs)
 | [],k,l,_,_=>by simp [forL,prs]
 | x::xs,k,l,hx,hl=>by
  simp only [List.length_cons] at hl
  obtain ⟨h1,h2⟩:=hx x (by simp)
  show (y0m k x l).bind _=_
  rw [w4q k x l h1 h2 (by omega)]
  by_cases h0:x=[]
  ·subst h0
   rw [if_pos rfl]
   simp only [Option.bind_some,after]
   rw [y8r xs (k+1) l (fun y hy=>hx y (by simp [hy])) (by omega)]
   simp [prs]
  ·rw [if_neg h0]
   simp only [Option.bind_some,after]
   rw [y8r xs (k+1) _ (fun y hy=>hx y (by simp [hy])) (by simp; omega)]
   simp [prs,h0]
theorem x9z (s:Bs) (h:s.length≤100000):∃ b,z2p s 33=some b:=by
 have:Ok (z2p s 33) fun _=>True:=by
  unfold z2p
  refine ok_g (by omega) (z4p (fun _ _=>True) s 0 () trivial (fun j x u _ _ _ => ?_) (fun _ _=>⟨_,rfl,trivial⟩))
  unfold x7b y9m
  refine wq (fun _=>wq (fun _=>yv trivial) (fun _=>yv trivial)) (fun _=>wq (fun _=>yv trivial) (fun _=>yv trivial))
 obtain ⟨b,h1,_⟩:=this
 exact ⟨b,h1⟩
theorem x4c (s:Bs) (h:s.length≤100000):Ok (Zv s) fun r=>z9c s=some r∧r.1.length≤1000∧(r.2=0→r.1=prs (spl 38 s)∧r.1.length≤100∧s.length≤1000):=by
 obtain ⟨b,hb⟩:=x9z s h
 have hr:Yj s 33 126=some b:=hb
 have hc:z0h s [35]=some (Lib.contains s [35]):=by unfold z0h; rw [if_pos (by omega)]
 have hbad:Zd s=some 3→Yn s=some false→Ok (Zv s) fun r=>z9c s=some r∧r.1.length≤1000∧(r.2=0→r.1=prs (spl 38 s)∧r.1.length≤100∧s.length≤1000):=fun h1 h2=>by
  refine ⟨([],3),?_,?_,by simp,fun h=>by cases h⟩
  ·unfold Zv; rw [h1]; rfl
  ·unfold z9c; rw [h2]; rfl
 by_cases hl:s.length≤1000
 ·have e1:¬ decide (1000 < (s.length:Int))=true:=by simp; omega
  have e2:decide ((s.length:Int)≤1000)=true:=by simp; omega
  cases hbv:b
  ·refine hbad ?_ ?_
   ·unfold Zd Zq; rw [if_neg e1,hr,hbv]; rfl
   ·unfold Yn z01; rw [if_pos e2,hb,hbv]; rfl
  ·cases hcv:Lib.contains s [35]
   ·have f1:Zd s=some 0:=by unfold Zd Zq; rw [if_neg e1,hr,hbv,hc,hcv]; rfl
    have f2:Yn s=some true:=by unfold Yn z01; rw [if_pos e2,hb,hbv,hc,hcv]; rfl
    obtain ⟨us,hu⟩:=x99 s (by omega)
    have hsp:vz s [38]=some (spl 38 s):=by
     unfold vz
     rw [if_pos ⟨by omega,by simp⟩,Wv]
    have hsl:=z1r 38 s
    have hpc:∀ x,x∈spl 38 s→x.length≤100000:=fun x hx=>by have:=Ww 38 s x hx; omega
    have hv:=x90 38 (by decide) (by decide) s.length s (Nat.le_refl _)
    have hP:Zv s=if (spl 38 s).all vdQ=true then z0e (prs (spl 38 s)) else some ([],9):=by
     unfold Zv
     rw [f1]
     simp only [Option.bind_some,ne_eq,not_true_eq_false,decide_false,Bool.false_eq_true,if_false,hsp]
     rw [if_pos (by omega),y8s _ 0 [] hpc (by simp only [List.length_nil]; omega),List.nil_append]
    rw [hP]
    unfold z9c
    rw [f2]
    simp only [Option.bind_some,Bool.not_true,Bool.false_eq_true,if_false,hu,hsp]
    cases hvs:vdQ s
    ·rw [← hv,hvs]
     exact ⟨([],9),rfl,rfl,by simp,fun h=>by cases h⟩
    ·rw [← hv,hvs]
     have hall:∀ x,x∈spl 38 s→x.length≤100000∧vdQ x=true:=fun x hx=>⟨hpc x hx,List.all_eq_true.1 (by rw [← hv,hvs]) x hx⟩
     simp only [Bool.not_true,Bool.false_eq_true,if_false,if_true]
     rw [if_pos (by omega),y8r _ 0 [] hall (by simp only [List.length_nil]; omega),List.nil_append]
     have hEE:y4g (prs (spl 38 s))=z0e (prs (spl 38 s)):=rfl
     rw [hEE]
     unfold z0e
     refine wq (fun h1=>⟨_,rfl,?_,by simp,fun h=>by cases h⟩) (fun h1=>⟨_,rfl,?_,?_,fun _=>⟨rfl,?_,hl⟩⟩)
     ·rw [if_pos h1]
     ·rw [if_neg h1]
     ·have h1:¬ 100 < ((prs (spl 38 s)).length:Int):=by simpa using h1
      simp only; omega
     ·have h1:¬ 100 < ((prs (spl 38 s)).length:Int):=by simpa using h1
      simp only; omega
   ·refine hbad ?_ ?_
    ·unfold Zd Zq; rw [if_neg e1,hr,hbv,hc,hcv]; rfl
    ·unfold Yn z01; rw [if_pos e2,hb,hbv,hc,hcv]; rfl
 ·refine hbad ?_ ?_
  ·unfold Zd Zq; rw [if_pos (by simp; omega)]; rfl
  ·unfold Yn z01; rw [if_neg (by simp; omega)]; try rfl

noncomputable def frQ (c:UInt8):Bool:=decide (Yk (c.toNat:Int)=some true)
noncomputable def pcQ (c:UInt8):Bs:=(Yi (c.toNat:Int)).getD []
noncomputable def qcQ (c:UInt8):Bs:=if c.toNat=32 then [43] else if frQ c then [c] else pcQ c
theorem w9p (c:UInt8):Yk (c.toNat:Int)=some (frQ c):=by
 have:=jg (fun c=>decide (Yk (c.toNat:Int)=some (frQ c))) (by decide +kernel) c
 exact of_decide_eq_true this
theorem y2k (c:UInt8):Yi (c.toNat:Int)=some (pcQ c)∧(pcQ c).length=3:=by
 have:=jg (fun c=>decide (Yi (c.toNat:Int)=some (pcQ c)∧(pcQ c).length=3)) (by decide +kernel) c
 exact of_decide_eq_true this
theorem v0x (c:UInt8):z5v (c.toNat:Int)=some (pcQ c):=by
 have:=jg (fun c=>decide (z5v (c.toNat:Int)=some (pcQ c))) (by decide +kernel) c
 exact of_decide_eq_true this
theorem w4m (c:UInt8):(decide (0≤Lib.indexByte [97,98,99,100,101,102,103,104,105,106,107,108,109,110,111,112,113,114,115,116,117,118,119,120,121,122,65,66,67,68,69,70,71,72,73,74,75,76,77,78,79,80,81,82,83,84,85,86,87,88,89,90,48,49,50,51,52,53,54,55,56,57,45,46,95,126] c))=frQ c:=by
 have:=jg (fun c=>(decide (0≤Lib.indexByte [97,98,99,100,101,102,103,104,105,106,107,108,109,110,111,112,113,114,115,116,117,118,119,120,121,122,65,66,67,68,69,70,71,72,73,74,75,76,77,78,79,80,81,82,83,84,85,86,87,88,89,90,48,49,50,51,52,53,54,55,56,57,45,46,95,126] c)) == frQ c) (by decide +kernel) c
 simpa using this
noncomputable def qwQ (s:Bs):Bs:=s.flatMap qcQ
theorem y7e (c:UInt8):(qcQ c).length≤3:=by
 unfold qcQ
 split
 ·simp
 ·split
  ·simp
  ·rw [(y2k c).2]; exact Nat.le_refl _
theorem z4l (s:Bs):(qwQ s).length≤3 * s.length:=by
 induction s with
 | nil=>simp [qwQ]
 | cons c s ih =>
  unfold qwQ at ih ⊢
  have:=y7e c
  rw [List.flatMap_cons,List.length_append,List.length_cons]
  omega
theorem x9v (k:Nat) (c:UInt8) (x:Bs) (hl:x.length+3≤1000000000):z1w k c (yk x)=some (.inl (yk (x++qcQ c))):=by
 have hn:(yk x).length+1≤1000000000:=by rw [Zo]; omega
 unfold z1w z1x qcQ
 by_cases h0:c.toNat=32
 ·have:decide ((c.toNat:Int)=32)=true:=by simp; omega
  rw [if_pos this,if_pos h0,z1d _ _ hn]
  simp only [Option.bind_some,xb]; rfl
 ·have:¬ decide ((c.toNat:Int)=32)=true:=by simp; omega
  rw [if_neg this,if_neg h0,w9p]
  simp only [Option.bind_some]
  cases frQ c
  ·simp only [Bool.false_eq_true,if_false]
   rw [(y2k c).1]
   simp only [Option.bind_some]
   unfold kk
   rw [if_pos (by rw [Zo,(y2k c).2]; omega)]
   simp only [Option.bind_some,xb]
  ·simp only [if_true]
   rw [z1d _ _ hn]
   simp only [Option.bind_some,xb]; rfl
theorem x9u (k:Nat) (c:UInt8) (x:Bs) (hl:x.length+3≤1000000000):y0d k c (yk x)=some (.inl (yk (x++qcQ c))):=by
 have hn:(yk x).length+1≤1000000000:=by rw [Zo]; omega
 unfold y0d y4a qcQ
 by_cases h0:c.toNat=32
 ·have:decide ((c.toNat:Int)=32)=true:=by simp; omega
  rw [if_pos this,if_pos h0,if_pos hn]
  rw [xb]; rfl
 ·have:¬ decide ((c.toNat:Int)=32)=true:=by simp; omega
  rw [if_neg this,if_neg h0]
  unfold z2d
  simp only [Option.bind_some]
  have e1:((c.toNat:Int)).toNat.toUInt8=c:=by simp
  rw [e1,w4m]
  cases frQ c
  ·simp only [Bool.false_eq_true,if_false]
   rw [v0x]
   simp only [Option.bind_some]
   rw [if_pos (by rw [Zo,(y2k c).2]; omega),xb]
  ·simp only [if_true]
   rw [if_pos hn,xb]; rfl
theorem x03:∀ (s:Bs) (k:Nat) (x:Bs),x.length+3 * s.length≤1000000000→forL (fun (k:Nat) (x:UInt8) (s:(List Int))=>z1w k x s) (fun (s:(List Int))=>z4s s) k s (yk x)=some (x++qwQ s)
 | [],k,x,h=>by
  show z4s (yk x)=_
  unfold z4s
  rw [if_pos (y0x x),Wt]; simp [qwQ]
 | c::s,k,x,h=>by
  simp only [List.length_cons] at h
  have:=y7e c
  show (z1w k c (yk x)).bind _=_
  rw [x9v k c x (by omega)]
  simp only [Option.bind_some,after]
  rw [x03 s (k+1) _ (by simp; omega)]
  simp [qwQ]
theorem x02:∀ (s:Bs) (k:Nat) (x:Bs),x.length+3 * s.length≤1000000000→forL (fun (k:Nat) (x:UInt8) (s:(List Int))=>y0d k x s) (fun (s:(List Int))=>y4b s) k s (yk x)=some (x++qwQ s)
 | [],k,x,h=>by
  show y4b (yk x)=_
  unfold y4b
  rw [Wt]; simp [qwQ]
 | c::s,k,x,h=>by
  simp only [List.length_cons] at h
  have:=y7e c
  show (y0d k c (yk x)).bind _=_
  rw [x9u k c x (by omega)]
  simp only [Option.bind_some,after]
  rw [x02 s (k+1) _ (by simp; omega)]
  simp [qwQ]
theorem z34 (s:Bs) (h:s.length≤100000):z5m s=some (qwQ s)∧y27 s=some (qwQ s):=by
 constructor
 ·unfold z5m
  rw [if_pos (by omega)]
  exact x03 s 0 [] (by simp only [List.length_nil]; omega)
 ·unfold y27
  rw [if_pos (by omega)]
  exact x02 s 0 [] (by simp only [List.length_nil]; omega)
theorem x1x (l:List zp) (hl:l.length≤1000) (hp:∀ p,p∈l→p.Name.length≤1000∧p.Value.length≤1000):Ok (xh l) fun r=>y3d l=some r:=by
 have hsame:y3d l=xh l:=by
  unfold xh y3d
  split
  ·rfl
  ·split
   ·refine y92 (fun _=>rfl) l 0 [] fun j x s _ hj => ?_
    obtain ⟨h1,h2⟩:=hp x (List.mem_of_getElem? hj)
    have h3:=z34 x.Name (by omega)
    have h4:=z34 x.Value (by omega)
    unfold Qi x7f
    rw [h3.1,h3.2,h4.1,h4.2]
    have hc:((x.Name == []) && ((x.Value == []) && true))=((decide (x.Name=[])) && (decide (x.Value=[]))):=by
     rw [Bool.and_true]
     rcases x with ⟨a,b⟩
     cases a <;> cases b <;> rfl
    rw [hc]
   ·rfl
 rw [hsame]
 have:Ok (xh l) fun _=>True:=by
  unfold xh
  refine wq (fun _=>yv trivial) (fun _=>ok_g (by omega) ?_)
  refine z4p (fun j (s:List Bs)=>s.length≤j∧∀ y,y∈s→y.length≤10000) l 0 [] ⟨by simp,by simp⟩ (fun j x s _ hj hI => ?_) (fun s hI => ?_)
  ·obtain ⟨h1,h2⟩:=hp x (List.mem_of_getElem? hj)
   have hjl:=z56 hj
   have q1:=z4l x.Name
   have q2:=z4l x.Value
   unfold Qi
   rw [(z34 x.Name (by omega)).1,(z34 x.Value (by omega)).1]
   refine wq (fun _=>yv trivial) (fun _ => ?_)
   simp only [Option.bind_some]
   refine ok_g (by simp; omega) (ok_g (by simp; omega) (ok_g (by omega) (yv ?_)))
   refine ⟨by simp; omega,fun y hy => ?_⟩
   rcases List.mem_append.1 hy with h | h
   ·exact hI.2 y h
   ·have:y=(qwQ x.Name++[61])++qwQ x.Value:=by simpa using h
    rw [this]; simp; omega
  ·have hj:=z0x 10000 [38] s hI.2
   have hs:s.length≤1000:=by omega
   have hm:s.length * (10000+([38]:Bs).length)≤1000 * 10001:=Nat.mul_le_mul hs (by simp)
   unfold z15
   have hJ:ji s [38]=some (Lib.join s [38]):=by
    unfold ji
    rw [if_pos ⟨by omega,by omega⟩]
   rw [hJ]
   simp only [Option.bind_some]
   exact wq (fun _=>yv trivial) (fun _=>yv trivial)
 obtain ⟨r,h1,_⟩:=this
 exact ⟨r,h1,h1⟩

end Go.Proofs.YtahcnngcpjkpgabGreatDoor
