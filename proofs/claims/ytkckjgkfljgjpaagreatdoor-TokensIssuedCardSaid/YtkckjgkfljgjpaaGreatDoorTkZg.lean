/- Plain: tokens issued and opened, both sides; tokens that the stream gives. -/
import Derived.Test.YtkckjgkfljgjpaaGreatDoorCzZg
import Derived.Test.YtkckjgkfljgjpaaGreatDoorTbZg
import Derived.Test.YtkckjgkfljgjpaaGreatDoorTsZg
namespace Go.Proofs.YtkckjgkfljgjpaaGreatDoor
set_option linter.unusedVariables false
set_option linter.unusedSimpArgs false
set_option linter.unusedSectionVars false
set_option maxRecDepth 20000
theorem CSm.cl {c:z0e} (h:CSm c):ClB c:=
 ⟨by have:=h.id; omega,by have:=h.subject; omega,by have:=h.issuer; omega,by have:=h.parent; omega,⟨by have:=h.aud.1; omega,fun x hx=>by have:=h.aud.2 x hx; omega⟩,⟨by have:=h.sc.1; omega,fun x hx=>by have:=h.sc.2 x hx; omega⟩⟩
theorem w2r (v:Int):z7x v=some (if momP v=true then 0 else 1):=by
 unfold z7x
 rw [x5b]
 simp only [Option.bind_some]
 cases momP v <;> rfl
def cwF (c:z0e):Bs×Int:=if clF c≠0 then ([],clF c) else if 4000 < (txC c).length then ([],2) else (txC c,0)
theorem w4n (c:z0e):(cwF c).1.length≤4000:=by
 unfold cwF
 split
 ·simp
 ·split
  ·simp
  ·simp only; omega
theorem w1h {l:List z0g} (hl:SgB l) (v:Int):(sgAt l v).2=true→(sgAt l v).1.Id.length≤1000∧(sgAt l v).1.Secret.length≤1000:=by
 have key:∀ n,n≤l.length→Ok (back (fun (k:Nat) (x:z0g) (s:Unit)=>z3v v k x) (fun (s:Unit)=>z8y) l n ()) fun r=>r.2=true→r.1.Id.length≤1000∧r.1.Secret.length≤1000:=by
  intro n
  induction n with
  | zero=>intro _; exact z1z (fun h=>by cases h)
  | succ n ih =>
   intro h
   show Ok ((l[n]?).bind _) _
   rw [List.getElem?_eq_getElem (by omega)]
   show Ok ((z3v v n l[n]).bind _) _
   have hk:=hl.key l[n] (List.getElem_mem (by omega))
   unfold z3v
   split
   ·exact z1z fun _=>hk
   ·exact ih (by omega)
 obtain ⟨r,h1,h2⟩:=key l.length (Nat.le_refl _)
 have h3:z4q l v=some r:=by
  unfold z4q
  rw [if_pos (by have:=hl.len; omega)]
  exact h1
 have h4:=(x4q l hl v).1
 rw [h3] at h4
 have h5:r=sgAt l v:=Option.some.inj h4
 rw [← h5]; exact h2
theorem x3q {l:List z0g} (hl:SgB l) {c:z0e} (hc:ClB c) (v:Int):∃ r,z8n l c v=some r∧r.1.length≤10000∧y2t l c v=some (if sgF l≠0 then ([],sgF l) else r):=by
 have e1:z57 (z0e.mk c.Id c.Subject c.Issuer c.Parent c.Audience c.Scopes c.From c.To)=some (cwF c):=w6q c hc
 have e2:z5p c=some (cwF c):=w6p c hc
 have hw:=w4n c
 have hk:=w1h hl v
 unfold y2t z8n
 rw [w0c l hl,e1,e2]
 simp only [Option.bind_some,w2r,x3j,w5m l hl v,(x4q l hl v).1]
 have main:∃ r,(if decide ((cwF c).2≠0)=true then some (([],(cwF c).2):Bs×Int) else if (!momP v)=true then some ([],1) else if (!(sgAt l v).2)=true then some ([],8) else if decide ((sgAt l v).1.Until < c.To)=true then some ([],1) else if (sgAt l v).1.Id.length+[46].length≤1000000000 then ((z5i (cwF c).1).bind fun (r15:(Bs))=>if ((sgAt l v).1.Id++[46]).length+r15.length≤1000000000 then (if (((sgAt l v).1.Id++[46])++r15).length+[46].length≤1000000000 then ((z3w (sgAt l v).1.Secret (((sgAt l v).1.Id++[46])++r15)).bind fun (r19:(Bs))=>if ((((sgAt l v).1.Id++[46])++r15)++[46]).length+r19.length≤1000000000 then (some ((((((sgAt l v).1.Id++[46])++r15)++[46])++r19),0)) else none) else none) else none) else none)=some r∧r.1.length≤10000 ∧
   (if decide ((cwF c).2≠0)=true then some (([],(cwF c).2):Bs×Int) else if decide ((if momP v=true then (0:Int) else 1)≠0)=true then some ([],(if momP v=true then (0:Int) else 1)) else if (!(sgAt l v).2)=true then some ([],8) else if decide ((sgAt l v).1.Until < c.To)=true then some ([],1) else if (sgAt l v).1.Id.length+[46].length≤1000000000 then ((z69 (cwF c).1).bind fun (r18:(Bs))=>if ((sgAt l v).1.Id++[46]).length+r18.length≤1000000000 then (if (((sgAt l v).1.Id++[46])++r18).length+[46].length≤1000000000 then ((y1n (sgAt l v).1.Secret (((sgAt l v).1.Id++[46])++r18)).bind fun (r22:(Bs))=>if ((((sgAt l v).1.Id++[46])++r18)++[46]).length+r22.length≤1000000000 then (some ((((((sgAt l v).1.Id++[46])++r18)++[46])++r22),0)) else none) else none) else none) else none)=some r:=by
  have c2:decide ((if momP v=true then (0:Int) else 1)≠0) = !momP v:=by cases momP v <;> rfl
  rw [c2]
  cases c1:decide ((cwF c).2≠0)
  ·simp only [Bool.false_eq_true,if_false]
   cases hm:momP v
   ·simp only [Bool.not_false,if_true]
    exact ⟨([],1),rfl,by simp,rfl⟩
   ·simp only [Bool.not_true,Bool.false_eq_true,if_false]
    cases hs:(sgAt l v).2
    ·simp only [Bool.not_false,if_true]
     exact ⟨([],8),rfl,by simp,rfl⟩
    ·obtain ⟨k1,k2⟩:=hk hs
     simp only [Bool.not_true,Bool.false_eq_true,if_false]
     cases hu:decide ((sgAt l v).1.Until < c.To)
     ·simp only [Bool.false_eq_true,if_false]
      have hel:=y9b (cwF c).1
      have g1:(sgAt l v).1.Id.length+[(46:Nat)].length≤1000000000:=by simp; omega
      simp only [if_pos g1,x3v _ (show (cwF c).1.length≤100000000 by omega),y6n _ (show (cwF c).1.length≤100000000 by omega),Option.bind_some]
      have g2:((sgAt l v).1.Id++[46]).length+(encP (cwF c).1).length≤1000000000:=by simp; omega
      have g3:(((sgAt l v).1.Id++[46])++encP (cwF c).1).length+[(46:Nat)].length≤1000000000:=by simp; omega
      obtain ⟨r,r1,r2,r3⟩:=x4e (sgAt l v).1.Secret (((sgAt l v).1.Id++[46])++encP (cwF c).1) (by omega) (by simp; omega)
      have g4:((((sgAt l v).1.Id++[46])++encP (cwF c).1)++[46]).length+r.length≤1000000000:=by simp; omega
      simp only [if_pos g2,if_pos g3,r1,r2,Option.bind_some,if_pos g4]
      exact ⟨_,rfl,by simp; omega,rfl⟩
     ·simp only [if_true]
      exact ⟨([],1),rfl,by simp,rfl⟩
  ·simp only [if_true]
   exact ⟨([],(cwF c).2),rfl,by simp,rfl⟩
 obtain ⟨r,m1,m2,m3⟩:=main
 refine ⟨r,m1,m2,?_⟩
 by_cases h0:sgF l=0
 ·rw [if_neg (by simpa using h0),if_neg (not_not_intro h0)]
  exact m3
 ·rw [if_pos (by simpa using h0),if_pos h0]
theorem w2e (s:Bs):(decF s).1.length≤s.length:=by
 have h1:=y7x (s.map iv)
 simp only [List.length_map] at h1
 unfold decF
 split
 ·split
  ·simp
  ·simp only [x1m,nI,List.length_map]; exact h1
 ·simp
def opE (x:z0g) (v:Int) (q:z0e×Int×Int):z0e×Int:=if q.2.2≠0 then (y5j,q.2.2) else if v < x.From∨x.Until≤v then (y5j,11) else (q.1,0)
theorem w1x {l:List z0g} (hl:SgB l) (t:Bs) (ht:t.length≤400000) (v:Int):∃ r,y0k l t v=some r∧ClB r.1∧y3j l t v=some (if sgF l≠0 then (y5j,sgF l) else r):=by
 unfold y3j y0k
 rw [w0c l hl]
 simp only [Option.bind_some,w2r,x3j]
 have hsp:=y83 t 46 (by omega)
 have hlen:=y41 46 t
 have hpc:=y3f 46 t
 rw [hsp]
 simp only [Option.bind_some]
 generalize spl 46 t=w at hlen hpc
 -- the rest,both sides
 have main:∃ r,(if (!momP v)=true then some ((z0e.mk [] [] [] [] [] [] 0 0),(1:Int)) else if decide ((w.length:Int)≠3)=true then z6b l v w true else (w[0]?).bind fun (x11:Bs)=>(z5b x11).bind fun (r13:(Bool))=>z6b l v w (!r13))=some r∧ClB r.1 ∧
   (if decide ((if momP v=true then (0:Int) else 1)≠0)=true then some ((z0e.mk [] [] [] [] [] [] 0 0),(if momP v=true then (0:Int) else 1)) else if decide ((w.length:Int)≠3)=true then z9y l v w true else (w[0]?).bind fun (x14:Bs)=>(z7y x14).bind fun (r16:(Bool))=>z9y l v w (!r16))=some r:=by
  have c2:decide ((if momP v=true then (0:Int) else 1)≠0) = !momP v:=by cases momP v <;> rfl
  rw [c2]
  cases hm:momP v
  ·simp only [Bool.not_false,if_true]
   exact ⟨(y5j,1),rfl,y14,rfl⟩
  ·simp only [Bool.not_true,Bool.false_eq_true,if_false]
   have cc:decide ((w.length:Int)≠3)=decide (w.length≠3):=by
    apply decide_eq_decide.2
    constructor <;> (intro h h'; apply h; omega)
   rw [cc]
   by_cases h3:w.length=3
   ·obtain ⟨a,b,c,rfl⟩:∃ a b c,w=[a,b,c]:=by
     match w,h3 with
     | [a,b,c],_=>exact ⟨a,b,c,rfl⟩
    simp only [List.length_cons,List.length_nil,Nat.zero_add,Nat.reduceAdd,ne_eq,not_true_eq_false,decide_false,Bool.false_eq_true,if_false]
    have la:=hpc a (by simp)
    have lb:=hpc b (by simp)
    simp only [List.getElem?_cons_zero,Option.bind_some,y4z a (by omega),y8h a (by omega)]
    cases hk:keyP a
    ·exact ⟨(y5j,9),rfl,y14,rfl⟩
    ·unfold z6b z9y
     rw [if_neg (by simp),if_neg (by simp)]
     have i1:z1k l (fun (a0:z0g)=>z71 a0 [a,b,c])=some (fdx (fun x:z0g=>decide (x.Id=a)) 0 l):=
      y98 l (p:=fun a0=>z71 a0 [a,b,c]) (fun x=>decide (x.Id=a)) (by have:=hl.len; omega) fun x _=>rfl
     have i2:z1k l (fun (a0:z0g)=>y04 a0 [a,b,c])=some (fdx (fun x:z0g=>decide (x.Id=a)) 0 l):=
      y98 l (p:=fun a0=>y04 a0 [a,b,c]) (fun x=>decide (x.Id=a)) (by have:=hl.len; omega) fun x _=>rfl
     rw [i1,i2]
     simp only [Option.bind_some]
     have hneg:=x5e (fun x:z0g=>decide (x.Id=a)) l
     by_cases hany:(l.any fun x:z0g=>decide (x.Id=a))=true
     ·obtain ⟨q0,x,q1,q2,q3⟩:=w2v (fun x:z0g=>decide (x.Id=a)) l hany
      rw [hneg,hany]
      simp only [Bool.not_true,Bool.false_eq_true,if_false,q1,Option.bind_some,List.getElem?_cons_zero,List.getElem?_cons_succ]
      have hxk:=hl.key x (List.mem_of_getElem? q2)
      rw [if_pos (by simp; omega),if_pos (by simp; omega),if_pos (by simp; omega),if_pos (by simp; omega)]
      obtain ⟨s,s1,s2,s3⟩:=x4e x.Secret ((a++[46])++b) (by omega) (by simp; omega)
      rw [s1,s2]
      simp only [Option.bind_some]
      by_cases hsum:s=c
      ·rw [if_neg (by simpa using hsum),if_neg (by simpa using hsum),x9y b (by omega),x7s b (by omega)]
       simp only [Option.bind_some]
       have hdl:=w2e b
       by_cases hd:(decF b).2=0
       ·rw [if_neg (by simpa using hd),if_neg (by simpa using hd),x4w _ (by omega),x4v _ (by omega)]
        simp only [Option.bind_some]
        have hq:=w5o (decF b).1
        generalize rdT (decF b).1=q at hq
        refine ⟨opE x v q,?_,?_,?_⟩
        ·unfold opE z7g z8p y5j
         by_cases e0:q.2.2=0 <;> by_cases e1:x.From≤v <;> by_cases e2:v < x.Until <;> simp [e0,e1,e2] <;> (try omega)
         all_goals (first | (intro hh; omega) | (split <;> first | rfl | omega) | skip)
        ·unfold opE
         split
         ·exact y14
         ·split
          ·exact y14
          ·exact hq
        ·unfold opE y1u y5j
         by_cases e0:q.2.2=0 <;> by_cases e1:v < x.From <;> by_cases e2:x.Until≤v <;> simp [e0,e1,e2]
       ·rw [if_pos (by simpa using hd),if_pos (by simpa using hd)]
        exact ⟨_,rfl,y14,rfl⟩
      ·rw [if_pos (by simpa using hsum),if_pos (by simpa using hsum)]
       exact ⟨_,rfl,y14,rfl⟩
     ·have hany':(l.any fun x:z0g=>decide (x.Id=a))=false:=by simpa using hany
      rw [hneg,hany']
      simp only [Bool.not_false,if_true]
      exact ⟨_,rfl,y14,rfl⟩
   ·have c3:decide (w.length≠3)=true:=by simpa using h3
    simp only [c3,if_true]
    exact ⟨(y5j,9),rfl,y14,rfl⟩
 obtain ⟨r,m1,m2,m3⟩:=main
 refine ⟨r,m1,m2,?_⟩
 by_cases h0:sgF l=0
 ·rw [if_neg (by simpa using h0),if_neg (not_not_intro h0)]
  exact m3
 ·rw [if_pos (by simpa using h0),if_pos h0]
  rfl
theorem x4f (s t:Bs) (hs:s.length≤1000000) (ht:t.length≤1000000):Ok (z3w s t) fun r=>r.length≤100:=by
 obtain ⟨r,_,r2,r3⟩:=x4e s t hs ht
 exact ⟨r,r2,r3⟩
theorem x0l {k:Int} {s:z0d} (h:SB k s) (hk:k≤9000) {l:List z0g} (hl:SgB l) {c:z0e} (hc:CSm c) (v:Int):Ok (z42 s l c v) fun r=>r.1.length≤300000∧SB (k+300) r.2:=by
 have J3:∀ (t:Bs) (a:List Int) (b:Int),t.length≤200000→SB (k+130) ⟨a,b⟩→Ok (z2i t a b) fun r=>r.1.length≤300000∧SB (k+300) r.2:=fun t a b ht hs=>by
  unfold z2i z23
  refine z02 (y4n hs (by omega) _ (by omega)) fun r46 h46=>y2r (fun _ => ?_) (fun _=>z1z ⟨by simp only; omega,h46.mono (by omega)⟩)
  refine z02 (z9j h46 (by omega) _ ⟨by simp,by simp⟩) fun r49 h49 => ?_
  have l49:=y6c h49.1 (by decide)
  refine ok_g (by simp; omega) (ok_g (by simp; omega) (z02 (x4f _ _ (by simp) (by simp; omega)) fun r53 h53=>ok_g (by simp; omega) (z1z ⟨by simp; omega,h49.2.mono (by omega)⟩)))
 have J2:∀ (t:Bs) (a:List Int) (b:Int),t.length≤98000→SB (k+120) ⟨a,b⟩→Ok (z2j t a b) fun r=>r.1.length≤300000∧SB (k+300) r.2:=fun t a b ht hs=>by
  unfold z2j
  refine z02 (y4n hs (by omega) _ (by omega)) fun r38 h38=>y2r (fun _ => ?_) (fun _=>J3 t _ _ (by omega) (h38.mono (by omega)))
  refine z02 (x1a h38 (by omega) t _ (by omega) (by simp)) fun r41 h41=>J3 _ _ _ (by have:=h41.1; simp only [List.length_cons,List.length_nil] at this; omega) (h41.2.mono (by omega))
 have J1:∀ (t:Bs),t.length≤98000→Ok (z2k s t) fun r=>r.1.length≤300000∧SB (k+300) r.2:=fun t ht=>by
  unfold z2k
  refine z02 (y4n h (by omega) _ (by omega)) fun r18 h18=>y2r (fun _ => ?_) (fun _=>J2 t _ _ ht (h18.mono (by omega)))
  refine z02 (z9j h18 (by omega) _ ⟨by simp,by simp⟩) fun r21 h21 => ?_
  have l21:=y6c h21.1 (by decide)
  refine ok_g (by simp; omega) (z02 (x2k h21.2 (by omega)) fun r24 h24 => ?_)
  have hel:=y9b r24.1
  have l24:=h24.1
  rw [y6n _ (by omega)]
  simp only [Option.bind_some]
  refine ok_g (by simp; omega) (ok_g (by simp; omega) (z02 (z9j h24.2 (by omega) _ ⟨by simp,by simp⟩) fun r30 h30 => ?_))
  have l30:=y6c h30.1 (by decide)
  exact z02 (x4f _ _ (by omega) (by simp; omega)) fun r32 h32=>ok_g (by simp; omega) (J2 _ _ _ (by simp; omega) (h30.2.mono (by omega)))
 unfold z42
 obtain ⟨r5,i1,i2,_⟩:=x3q hl hc.cl v
 rw [i1]
 simp only [Option.bind_some]
 refine y2r (fun _ => ?_) (fun _=>J1 _ (by omega))
 rw [y91 hc.wb]
 simp only [Option.bind_some]
 have hcl:=hc.len
 have hel:=y9b (txC c)
 rw [y6n _ (by omega)]
 simp only [Option.bind_some]
 exact ok_g (by simp; omega) (ok_g (by simp; omega) (z02 (x4f _ _ (by simp) (by simp; omega)) fun r14 h14=>ok_g (by simp; omega) (J1 _ (by simp; omega))))
end Go.Proofs.YtkckjgkfljgjpaaGreatDoor
