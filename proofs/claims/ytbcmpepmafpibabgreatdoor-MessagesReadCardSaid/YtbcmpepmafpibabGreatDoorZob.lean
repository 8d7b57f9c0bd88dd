/- Plain: the law MessagesRead is true for every list of numbers. -/
import Derived.Test.YtbcmpepmafpibabGreatDoorHaZo
import Derived.Test.YtbcmpepmafpibabGreatDoorHxZo
import Derived.Lib.ItoaLen
namespace Go.Proofs.YtbcmpepmafpibabGreatDoor
set_option linter.unusedVariables false
set_option maxRecDepth 20000
theorem y7n {s:Bs} (h:okN 5 s=true):okN 9 s=true:=by
 unfold okN at h ⊢
 simp only [Bool.and_eq_true,decide_eq_true_eq] at h ⊢
 exact ⟨h.1,⟨h.2.1.1,by have:=h.2.1.2; omega⟩,h.2.2⟩
theorem y7d {s : Bs} (h : okN 9 s = true) (hv : outP (valB s) 1 65535 = false) : okN 5 s = true := by
  have hb : 1 ≤ valB s ∧ valB s ≤ 65535 := by
    rw [xm] at hv
    simpa using hv
  cases s with
  | nil => simp [valB, nvB] at hb
  | cons c t =>
    by_cases hc : c = 45
    · subst hc
      rw [z4m] at hb; omega
    · rw [z1p c t hc] at hb
      have htl : tlB (c :: t) = c :: t := by rw [z12, if_neg hc]
      unfold okN at h ⊢
      rw [htl] at h ⊢
      simp only [Bool.and_eq_true, decide_eq_true_eq] at h ⊢
      refine ⟨h.1, ⟨h.2.1.1, ?_⟩, h.2.2⟩
      have hcan : canD (c :: t) = true := by
        unfold canD
        rw [h.1]
        rcases h.2.2 with h1 | h1
        · simp
          simp at h1
          exact .inr h1
        · simp [h1]
      have h1 := (z63 _ hcan).1
      have h2 := x08 4 (nvB (c :: t)) (by have h10 : (10 : Nat) ^ (4 + 1) = 100000 := (by decide); omega)
      rw [h1] at h2
      exact h2
theorem y7e (s:Bs) (w:Int) (hw:okN 5 s=true→w=valB s):(okN 9 s && !outP (valB s) 1 65535)=(okN 5 s && !outP w 1 65535):=by
 cases h5:okN 5 s
 ·cases h9:okN 9 s
  ·rfl
  ·cases ho:outP (valB s) 1 65535
   ·rw [y7d h9 ho] at h5; cases h5
   ·rfl
 ·rw [y7n h5,hw h5]
theorem x0g (d:Bs) (h:d.length≤100000) (ha:ascB d=true):∃ b r,z0i d=some b∧z0p d=some r∧r.2=if b then 0 else 3:=by
 have h1:=x1a d 58
 have hc:=z65 d 58
 have h2:=z7t 46 (Lib.cut d [58]).1
 have hap:ascB (Lib.cut d [58]).1=true:=x2b ha hc.2.2.1
 obtain ⟨w,w1,w2,_⟩:=y1f (Lib.cut d [58]).2.1 5 (by omega) (by omega)
 have hk:Yr (Lib.cut d [58]).2.1 9=some (if okN 9 (Lib.cut d [58]).2.1 then valB (Lib.cut d [58]).2.1 else 0,okN 9 (Lib.cut d [58]).2.1):=y16 (Lib.cut d [58]).2.1 9 (by omega) (by omega)
 have hpe:=y7e (Lib.cut d [58]).2.1 w w2
 have hE1:z2i d (Lib.cut d [58])=some (decide ((d.length:Int)≤255) && (!(Lib.cut d [58]).2.2 || (okN 9 (Lib.cut d [58]).2.1 && !outP (valB (Lib.cut d [58]).2.1) 1 65535))):=by
  unfold z2i Yq xq
  rw [hk]
  simp only [Option.bind_some]
  cases decide ((d.length:Int)≤255)
  ·rfl
  ·cases (Lib.cut d [58]).2.2
   ·rfl
   ·cases okN 9 (Lib.cut d [58]).2.1
    ·rfl
    ·simp only [if_true,y1q,Option.bind_some]; rfl
 have hI:z0i d=some ((spl 46 (Lib.cut d [58]).1).all labB && (decide ((d.length:Int)≤255) && (!(Lib.cut d [58]).2.2 || (okN 9 (Lib.cut d [58]).2.1 && !outP (valB (Lib.cut d [58]).2.1) 1 65535)))):=by
  unfold z0i wo vw
  rw [if_pos (by omega)]
  simp only [Option.bind_some]
  rw [if_pos ⟨by omega,by simp⟩,z45]
  simp only [Option.bind_some]
  rw [if_pos (by omega),xb (p:=fun _ x=>labB x) (r0:=false) hE1 _ 0 (fun j x _ hx=>by
   have:=z47 46 _ x (List.mem_of_getElem? hx)
   unfold z5m
   rw [x0a x (by omega)]
   simp only [Option.bind_some]
   cases labB x <;> simp),Wd]
  cases (spl 46 (Lib.cut d [58]).1).all labB <;> rfl
 have hE:∀ v:Int×Bool,∃ e,z4c (Lib.cut d [58]) v=some (e,0):=by
  intro v
  have hl:=y7w (Lib.cut d [58]).1
  unfold z4c Yk z1d
  rw [if_pos ⟨by omega,hap⟩]
  simp only [Option.bind_some]
  have hll:(Lib.toLowerA (Lib.cut d [58]).1).length=(Lib.cut d [58]).1.length:=hl
  split
  ·have h21:=hc.2.1
   rw [if_pos (by simp; omega),if_pos (by simp; omega)]
   exact ⟨_,rfl⟩
  ·exact ⟨_,rfl⟩
 have hF:∀ v:Int×Bool,∃ r,ul (Lib.cut d [58]) v false=some r∧r.2=if (spl 46 (Lib.cut d [58]).1).all labB then 0 else 3:=by
  intro v
  obtain ⟨e,e1⟩:=hE v
  unfold ul vw
  rw [if_neg (by simp),if_pos ⟨by omega,by simp⟩,z45]
  simp only [Option.bind_some]
  rw [if_pos (by omega),xb (p:=fun _ x=>labB x) (r0:=([],3)) (e:=(e,0)) e1 _ 0 (fun j x _ hx=>by
   have:=z47 46 _ x (List.mem_of_getElem? hx)
   exact y66 j x (by omega)),Wd]
  refine ⟨_,rfl,?_⟩
  cases (spl 46 (Lib.cut d [58]).1).all labB <;> rfl
 have hT:∀ v:Int×Bool,ul (Lib.cut d [58]) v true=some ([],3):=fun v=>rfl
 have hR:∃ r,z0p d=some r∧r.2=if ((spl 46 (Lib.cut d [58]).1).all labB && (decide ((d.length:Int)≤255) && (!(Lib.cut d [58]).2.2 || (okN 5 (Lib.cut d [58]).2.1 && !outP w 1 65535)))) then 0 else 3:=by
  unfold z0p wo
  rw [if_pos (by omega)]
  simp only [Option.bind_some]
  show ∃ r,((Zi (Lib.cut d [58]).2.1 ((5:Nat):Int)).bind _)=some r∧_
  rw [w1]
  simp only [Option.bind_some]
  by_cases hl:255 < (d.length:Int)
  ·rw [if_pos (show decide (255 < (d.length:Int))=true by simpa using hl),hT]
   refine ⟨_,rfl,?_⟩
   rw [show decide ((d.length:Int)≤255)=false from by simp; omega]
   simp
  ·rw [if_neg (show ¬ decide (255 < (d.length:Int))=true by simpa using hl),show decide ((d.length:Int)≤255)=true by simp; omega]
   cases h3:(Lib.cut d [58]).2.2
   ·simp only [Bool.false_eq_true,if_false]
    obtain ⟨r,r1,r2⟩:=hF (w,okN 5 (Lib.cut d [58]).2.1)
    exact ⟨r,r1,by rw [r2]; simp⟩
   ·simp only [if_true]
    cases okN 5 (Lib.cut d [58]).2.1
    ·simp only [Bool.not_false,if_true]
     rw [hT]
     exact ⟨_,rfl,by simp⟩
    ·simp only [Bool.not_true,Bool.false_eq_true,if_false]
     rw [Qm]
     simp only [Option.bind_some,Bool.not_not]
     cases outP w 1 65535
     ·obtain ⟨r,r1,r2⟩:=hF (w,true)
      exact ⟨r,r1,by rw [r2]; simp⟩
     ·rw [hT]
      exact ⟨_,rfl,by simp⟩
 obtain ⟨r,r1,r2⟩:=hR
 exact ⟨_,r,hI,r1,by rw [hpe]; exact r2⟩
theorem y60 (r:yd) (p1:r.Method.length≤100000) (p2:r.Host.length≤100000∧ascB r.Host=true) (p3:r.Path.length≤100000) (p4:r.Query.length≤100000) (p5:r.From.length≤100000) (p6:hdsP r.Headers):Ok (z3b r) fun e=>z3o r=some e:=by
 obtain ⟨b,q,e1,e2,e3⟩:=x0g r.Host p2.1 p2.2
 have hh:=y27 r.Headers p6
 unfold z3b z3o xu Qt
 rw [y99,y7q,z85 _ (by omega),z7i _ (by omega),e1,e2,y7h _ (by omega),y7g _ (by omega),y69 _ (by omega),y68 _ (by omega),z9l,z33 _ (by omega),hh.1,hh.2]
 simp only [Option.bind_some,e3]
 cases momP r.At
 ·exact ym rfl
 ·cases tokB r.Method
  ·exact ym rfl
  ·cases b
   ·exact ym rfl
   ·cases pthB r.Path
    ·exact ym rfl
    ·cases qryB r.Query
     ·exact ym rfl
     ·cases fldB r.From
      ·exact ym rfl
      ·simp only [if_true,Bool.not_true,Bool.false_eq_true,if_false,ne_eq,not_true_eq_false,decide_false]
       split
       ·exact ym rfl
       ·split <;> exact ym rfl
abbrev cl_:Bs:=[99,111,110,116,101,110,116,45,108,101,110,103,116,104]
abbrev te_:Bs:=[116,114,97,110,115,102,101,114,45,101,110,99,111,100,105,110,103]
abbrev ho_:Bs:=[104,111,115,116]
def frB (h:zk):Bool:=nmB cl_ h || nmB te_ h
theorem x0q (h:zk) (h1:nmOK h):Yn h=some (frB h):=by
 unfold Yn Wy frB
 rw [z5i h _ h1 (by decide),z5i h _ h1 (by decide)]
 simp only [Option.bind_some]
 cases nmB cl_ h <;> rfl
def owB (req:Bool) (h:zk):Bool:=(req && nmB ho_ h) || frB h
theorem y1p (h:zk) (req:Bool) (h1:nmOK h):z0n h.Name req=some (owB req h):=by
 have ha:∀ n:Bs,(ascB n=true∧n.length≤100000)→ko h.Name n=some (nmB n h):=fun n hn=>z9x h.Name n h1 hn
 unfold z0n xa owB frB
 rw [ha _ (by decide),ha _ (by decide),ha _ (by decide)]
 simp only [Option.bind_some]
 cases req
 ·simp only [Bool.false_eq_true,if_false,Bool.false_and,Bool.false_or]
  cases nmB cl_ h <;> rfl
 ·simp only [if_true,Bool.true_and]
  cases nmB ho_ h
  ·cases nmB cl_ h <;> rfl
  ·rfl
abbrev crl:Bs:=[13,10]
def hdG (r:Bs):Bool:=(Lib.cut r [58]).2.2 && (tokB (Lib.cut r [58]).1 && fldB (trL 32 (trR 32 (Lib.cut r [58]).2.1)))
def hdH (r:Bs):zk:=zk.mk (Lib.cut r [58]).1 (trL 32 (trR 32 (Lib.cut r [58]).2.1))
def hdL:Nat→Bs→List zk→Option (List zk×Bs)
 | 0,_,_=>none
 | n+1,q,l=>if (Lib.cut q crl).2.2=false then none else if (Lib.cut q crl).1=[] then some (l,(Lib.cut q crl).2.1) else if hdG (Lib.cut q crl).1=true then hdL n (Lib.cut q crl).2.1 (l++[hdH (Lib.cut q crl).1]) else none
theorem x0r (r2:Bs×Bs×Bool) (q:Bs) (l:List zk) (hq:q.length≤100000) (hl:l.length≤100000000):ku r2 q l=if (Lib.cut q crl).2.2=false then some (.inr (qp.mk r2.1 l [],9)) else if (Lib.cut q crl).1=[] then some (.inr (qp.mk r2.1 l (Lib.cut q crl).2.1,0)) else if hdG (Lib.cut q crl).1=true then some (.inl ((Lib.cut q crl).2.1,l++[hdH (Lib.cut q crl).1])) else some (.inr (qp.mk r2.1 l [],9)):=by
 have hcl:=z64 q
 unfold ku wo
 rw [if_pos (show q.length≤1000000000 by omega)]
 simp only [Option.bind_some]
 generalize Lib.cut q crl=r at *
 cases r.2.2
 ·rfl
 ·simp only [Bool.not_true,Bool.false_eq_true,if_false,Bool.true_eq_false]
  by_cases h0:r.1=[]
  ·rw [if_pos (show decide (r.1=[])=true by simpa using h0),if_pos h0]; rfl
  ·have hc:=z65 r.1 58
   rw [if_neg (show ¬ decide (r.1=[])=true by simpa using h0),if_neg h0,if_pos (show r.1.length≤1000000000 by omega)]
   simp only [Option.bind_some]
   unfold Qq hdG hdH
   generalize Lib.cut r.1 [58]=c at *
   rw [z40 32 (by decide) c.2.1 (by omega),z7i c.1 (by omega)]
   simp only [Option.bind_some]
   rw [z9l]
   have hfl:(trL 32 (trR 32 c.2.1)).length≤1000000000:=by
    have h1:=z41 32 c.2.1
    have h2:(trL 32 (trR 32 c.2.1)).length≤(trR 32 c.2.1).length:=by unfold trL; exact (List.dropWhile_sublist _).length_le
    omega
   rw [z33 _ hfl]
   simp only [Option.bind_some]
   cases c.2.2
   ·rfl
   ·cases tokB c.1
    ·rfl
    ·cases fldB (trL 32 (trR 32 c.2.1))
     ·rfl
     ·simp only [Bool.not_true,Bool.false_eq_true,if_false,Bool.and_self,if_true]
      rw [if_pos (by omega)]
theorem y28 (s q first:Bs) (v2 at_:Int) (l:List zk) (hs:sub? s at_ (s.length:Int)=some q) (hq:q.length≤100000) (hl:l.length≤100000000):jj s v2 l first at_=if (Lib.cut q crl).2.2=false then some (.inr (wq.mk first l at_,false)) else if v2=0 then some (.inl (wr (v2+1),l,(Lib.cut q crl).1,wr (at_+wr (((Lib.cut q crl).1.length:Int)+2)))) else if (Lib.cut q crl).1=[] then some (.inr (wq.mk first l (wr (at_+wr (((Lib.cut q crl).1.length:Int)+2))),true)) else if hdG (Lib.cut q crl).1=true then some (.inl (wr (v2+1),l++[hdH (Lib.cut q crl).1],first,wr (at_+wr (((Lib.cut q crl).1.length:Int)+2)))) else some (.inr (wq.mk first l (wr (at_+wr (((Lib.cut q crl).1.length:Int)+2))),false)):=by
 have hcl:=z64 q
 unfold jj wo
 rw [hs]
 simp only [Option.bind_some]
 rw [if_pos (show q.length≤1000000000 by omega)]
 simp only [Option.bind_some]
 generalize Lib.cut q crl=r at *
 cases r.2.2
 ·rfl
 ·simp only [Bool.not_true,Bool.false_eq_true,if_false,Bool.true_eq_false]
  by_cases hv:v2=0
  ·rw [if_pos (show decide (v2=0)=true by simpa using hv),if_pos hv]; rfl
  ·rw [if_neg (show ¬ decide (v2=0)=true by simpa using hv),if_neg hv]
   by_cases h0:r.1=[]
   ·rw [if_pos (show decide (r.1=[])=true by simpa using h0),if_pos h0]
   ·have hc:=z65 r.1 58
    rw [if_neg (show ¬ decide (r.1=[])=true by simpa using h0),if_neg h0,if_pos (show r.1.length≤1000000000 by omega)]
    simp only [Option.bind_some]
    unfold Yf Ws hdG hdH
    generalize Lib.cut r.1 [58]=c at *
    rw [z40 32 (by decide) c.2.1 (by omega),z85 c.1 (by omega)]
    simp only [Option.bind_some]
    have hfl:(trL 32 (trR 32 c.2.1)).length≤1000000000:=by
     have h1:=z41 32 c.2.1
     have h2:(trL 32 (trR 32 c.2.1)).length≤(trR 32 c.2.1).length:=by unfold trL; exact (List.dropWhile_sublist _).length_le
     omega
    rw [z33 _ hfl]
    simp only [Option.bind_some]
    cases c.2.2
    ·rfl
    ·cases tokB c.1
     ·rfl
     ·cases fldB (trL 32 (trR 32 c.2.1))
      ·rfl
      ·simp only [Bool.not_true,Bool.false_eq_true,if_false,Bool.and_self,if_true]
       rw [if_pos (by omega)]
def hdOK (h:zk):Prop:=tokB h.Name=true∧fldB h.Value=true
theorem y3b:∀ (n:Nat) (q:Bs) (l:List zk),(∀ h,h∈l→hdOK h)→∀ x,hdL n q l=some x→(∀ h,h∈x.1→hdOK h)∧x.2 <:+ q∧x.1.length≤l.length+q.length
 | 0,q,l,hl,x,h=>by cases h
 | n+1,q,l,hl,x,h=>by
  unfold hdL at h
  cases h2:(Lib.cut q crl).2.2
  ·rw [h2] at h; simp at h
  ·rw [h2] at h
   have hc:=z4g q h2
   simp only [Bool.true_eq_false,if_false] at h
   have hsuf:(Lib.cut q crl).2.1 <:+ q:=by
    have:(Lib.cut q crl).2.1=q.drop ((Lib.cut q crl).1.length+2):=hc.2
    rw [this]; exact List.drop_suffix _ _
   by_cases h0:(Lib.cut q crl).1=[]
   ·rw [if_pos h0] at h
    cases h
    exact ⟨hl,hsuf,by simp⟩
   ·rw [if_neg h0] at h
    cases hg:hdG (Lib.cut q crl).1
    ·rw [hg] at h; simp at h
    ·rw [hg] at h
     simp only [if_true] at h
     obtain ⟨a,b,c⟩:=y3b n _ _ (fun y hy=>by
      rcases List.mem_append.1 hy with hy | hy
      ·exact hl y hy
      ·rw [List.mem_singleton.1 hy]
       unfold hdG at hg
       simp only [Bool.and_eq_true] at hg
       exact ⟨hg.2.1,hg.2.2⟩) x h
     have hlen:(Lib.cut q crl).2.1.length+2≤q.length:=by
      have:(Lib.cut q crl).2.1=q.drop ((Lib.cut q crl).1.length+2):=hc.2
      rw [this,List.length_drop]
      have:=hc.1
      omega
     exact ⟨a,b.trans hsuf,by simp at c; omega⟩
theorem z9o (q:Bs) (h:(Lib.cut q crl).2.2=true):(Lib.cut q crl).2.1.length+(Lib.cut q crl).1.length+2=q.length:=by
 have hc:=z4g q h
 have e:(Lib.cut q crl).2.1=q.drop ((Lib.cut q crl).1.length+2):=hc.2
 have:=hc.1
 rw [e,List.length_drop]
 show q.length - ((Lib.cut q [13,10]).1.length+2)+(Lib.cut q [13,10]).1.length+2=_
 omega
theorem y3e (r2:Bs×Bs×Bool):∀ (n:Nat) (q:Bs) (l:List zk),q.length < n→q.length≤100000→l.length+q.length≤1000000→∃ l',iter (fun (s:Bs×(List zk))=>ku r2 s.1 s.2) (q,l)=some (match hdL n q l with | none=>(qp.mk r2.1 l' [],9) | some x=>(qp.mk r2.1 x.1 x.2,0))
 | 0,q,l,h,_,_=>by omega
 | n+1,q,l,h,hq,hl=>by
  have hst:=x0r r2 q l hq (by omega)
  unfold hdL
  cases h2:(Lib.cut q crl).2.2
  ·rw [h2] at hst
   simp only [if_true] at hst ⊢
   exact ⟨l,wi (body:=fun (s:Bs×(List zk))=>ku r2 s.1 s.2) (s:=(q,l)) hst⟩
  ·have hlt:=z9o q h2
   rw [h2] at hst
   simp only [Bool.true_eq_false,if_false] at hst ⊢
   by_cases h0:(Lib.cut q crl).1=[]
   ·rw [if_pos h0] at hst ⊢
    exact ⟨l,wi (body:=fun (s:Bs×(List zk))=>ku r2 s.1 s.2) (s:=(q,l)) hst⟩
   ·rw [if_neg h0] at hst ⊢
    cases hg:hdG (Lib.cut q crl).1
    ·rw [hg] at hst
     simp only [Bool.false_eq_true,if_false] at hst ⊢
     exact ⟨l,wi (body:=fun (s:Bs×(List zk))=>ku r2 s.1 s.2) (s:=(q,l)) hst⟩
    ·rw [hg] at hst
     simp only [if_true] at hst ⊢
     obtain ⟨l',h'⟩:=y3e r2 n (Lib.cut q crl).2.1 (l++[hdH (Lib.cut q crl).1]) (by omega) (by omega) (by simp; omega)
     refine ⟨l',?_⟩
     rw [uy (body:=fun (s:Bs×(List zk))=>ku r2 s.1 s.2) (s:=(q,l)) hst]
     exact h'
theorem Wm (s:Bs) (i:Nat) (h:i≤s.length):sub? s (i:Int) (s.length:Int)=some (s.drop i):=by
 unfold sub?
 rw [if_pos (by omega)]
 simp only [Int.toNat_natCast]
 rw [List.take_of_length_le (by simp)]
theorem y3a (s first:Bs) (hs:s.length≤100000):∀ (n:Nat) (q:Bs) (l:List zk) (i v2:Nat),q.length < n→s.drop i=q→i+q.length=s.length→1≤v2→v2+q.length≤300000→l.length+q.length≤1000000 →
  ∃ l' a',iter (fun (p:Int×(List zk)×Bs×Int)=>jj s p.1 p.2.1 p.2.2.1 p.2.2.2) ((v2:Int),l,first,(i:Int))=some (match hdL n q l with | none=>(wq.mk first l' a',false) | some x=>(wq.mk first x.1 ((s.length - x.2.length:Nat):Int),true))
 | 0,q,l,i,v2,h,_,_,_,_,_=>by omega
 | n+1,q,l,i,v2,h,hd,hi,h1,hv,hl=>by
  have hsub:sub? s (i:Int) (s.length:Int)=some q:=by rw [Wm s i (by omega),hd]
  have hst:=y28 s q first (v2:Int) (i:Int) l hsub (by omega) (by omega)
  unfold hdL
  cases h2:(Lib.cut q crl).2.2
  ·rw [h2] at hst
   simp only [if_true] at hst ⊢
   exact ⟨l,(i:Int),wi (body:=fun (p:Int×(List zk)×Bs×Int)=>jj s p.1 p.2.1 p.2.2.1 p.2.2.2) (s:=((v2:Int),l,first,(i:Int))) hst⟩
  ·have hlt:=z9o q h2
   have hc:=z4g q h2
   have hdr:s.drop (i+((Lib.cut q crl).1.length+2))=(Lib.cut q crl).2.1:=by
    have e:(Lib.cut q crl).2.1=q.drop ((Lib.cut q crl).1.length+2):=hc.2
    rw [e,← hd,List.drop_drop]
   have hwa:wr ((i:Int)+wr (((Lib.cut q crl).1.length:Int)+2))=((i+((Lib.cut q crl).1.length+2):Nat):Int):=by
    rw [qz (n:=((Lib.cut q crl).1.length:Int)+2) (by omega),qz (by omega)]; omega
   have hwv:wr ((v2:Int)+1)=((v2+1:Nat):Int):=by rw [qz (by omega)]; omega
   rw [h2,hwa,hwv,if_neg (by simp),if_neg (show ¬ (v2:Int)=0 by omega)] at hst
   simp only [Bool.true_eq_false,if_false]
   by_cases h0:(Lib.cut q crl).1=[]
   ·rw [if_pos h0] at hst
    rw [if_pos h0]
    refine ⟨l,0,?_⟩
    rw [wi (body:=fun (p:Int×(List zk)×Bs×Int)=>jj s p.1 p.2.1 p.2.2.1 p.2.2.2) (s:=((v2:Int),l,first,(i:Int))) hst]
    have:i+((Lib.cut q crl).1.length+2)=s.length - (Lib.cut q crl).2.1.length:=by omega
    rw [this]
   ·rw [if_neg h0] at hst
    rw [if_neg h0]
    cases hg:hdG (Lib.cut q crl).1
    ·rw [hg] at hst
     simp only [Bool.false_eq_true,if_false] at hst ⊢
     exact ⟨l,_,wi (body:=fun (p:Int×(List zk)×Bs×Int)=>jj s p.1 p.2.1 p.2.2.1 p.2.2.2) (s:=((v2:Int),l,first,(i:Int))) hst⟩
    ·rw [hg] at hst
     simp only [if_true] at hst ⊢
     obtain ⟨l',a',h'⟩:=y3a s first hs n (Lib.cut q crl).2.1 (l++[hdH (Lib.cut q crl).1]) (i+((Lib.cut q crl).1.length+2)) (v2+1) (by omega) hdr (by omega) (by omega) (by omega) (by simp; omega)
     refine ⟨l',a',?_⟩
     rw [uy (body:=fun (p:Int×(List zk)×Bs×Int)=>jj s p.1 p.2.1 p.2.2.1 p.2.2.2) (s:=((v2:Int),l,first,(i:Int))) hst]
     exact h'
theorem y26 (s:Bs) (hs:s.length≤60000) :
  (∃ x z,Za s=some x∧x.2=false∧x.1.first_.length≤100000∧Zh s=some z∧z.2≠0∧z.1.first_.length≤100000) ∨
  (∃ f l rest,Za s=some (wq.mk f l ((s.length - rest.length:Nat):Int),true)∧Zh s=some (qp.mk f l rest,0)∧f.length≤100000∧(∀ h,h∈l→hdOK h)∧l.length≤100000∧rest <:+ s):=by
 have hcl:=z64 s
 have hst:=y28 s s [] 0 0 [] (by have:=Wm s 0 (by omega); simpa using this) (by omega) (by simp)
 have hF:Zh s=if (Lib.cut s crl).2.2=false then (some (qp.mk (Lib.cut s crl).1 [] [],9)) else (iter (fun (p:Bs×(List zk))=>ku (Lib.cut s crl) p.1 p.2) ((Lib.cut s crl).2.1,([]:List zk))):=by
  unfold Zh wo
  rw [if_pos (by omega)]
  simp only [Option.bind_some]
  cases (Lib.cut s [13,10]).2.2 <;> rfl
 cases h2:(Lib.cut s crl).2.2
 ·rw [h2] at hst hF
  simp only [if_true] at hst hF
  exact .inl ⟨_,_,wi (body:=fun (p:Int×(List zk)×Bs×Int)=>jj s p.1 p.2.1 p.2.2.1 p.2.2.2) (s:=(0,[],[],0)) hst,rfl,by simp,hF,by simp,by show (Lib.cut s crl).1.length≤_; have:(Lib.cut s crl).1.length≤s.length:=hcl; omega⟩
 ·have hlt:=z9o s h2
  have hc:=z4g s h2
  have hwa:wr ((0:Int)+wr (((Lib.cut s crl).1.length:Int)+2))=(((Lib.cut s crl).1.length+2:Nat):Int):=by
   rw [qz (n:=((Lib.cut s crl).1.length:Int)+2) (by omega),qz (by omega)]; omega
  rw [h2,hwa,if_neg (by simp),if_pos rfl] at hst
  rw [h2,if_neg (by simp)] at hF
  have hdr:s.drop ((Lib.cut s crl).1.length+2)=(Lib.cut s crl).2.1:=hc.2.symm
  obtain ⟨l1,f1⟩:=y3e (Lib.cut s crl) (s.length+1) (Lib.cut s crl).2.1 [] (by omega) (by omega) (by simp; omega)
  obtain ⟨l2,a2,g1⟩:=y3a s (Lib.cut s crl).1 (by omega) (s.length+1) (Lib.cut s crl).2.1 [] ((Lib.cut s crl).1.length+2) 1 (by omega) hdr (by omega) (by omega) (by omega) (by simp; omega)
  have hR:Za s=iter (fun (p:Int×(List zk)×Bs×Int)=>jj s p.1 p.2.1 p.2.2.1 p.2.2.2) ((1:Int),[],(Lib.cut s crl).1,(((Lib.cut s crl).1.length+2:Nat):Int)):=by
   unfold Za
   exact uy (body:=fun (p:Int×(List zk)×Bs×Int)=>jj s p.1 p.2.1 p.2.2.1 p.2.2.2) (s:=(0,[],[],0)) hst
  have g1':iter (fun (p:Int×(List zk)×Bs×Int)=>jj s p.1 p.2.1 p.2.2.1 p.2.2.2) ((1:Int),[],(Lib.cut s crl).1,(((Lib.cut s crl).1.length+2:Nat):Int))=_:=g1
  rw [g1'] at hR
  rw [f1] at hF
  have hfl:(Lib.cut s crl).1.length≤100000:=by have:(Lib.cut s crl).1.length≤s.length:=hcl; omega
  cases hL:hdL (s.length+1) (Lib.cut s crl).2.1 [] with
  | none =>
   rw [hL] at hR hF
   exact .inl ⟨_,_,hR,rfl,hfl,hF,by simp,hfl⟩
  | some x =>
   rw [hL] at hR hF
   obtain ⟨o1,o2,o3⟩:=y3b _ _ _ (by simp) x hL
   refine .inr ⟨_,_,_,hR,hF,hfl,o1,by simp at o3; omega,?_⟩
   refine o2.trans ?_
   rw [← hdr]; exact List.drop_suffix _ _
theorem y4q (s:Bs):(Lib.trimS s ddL=[])↔s.all isD=true:=by
 unfold Lib.trimS Lib.trimLeftS Lib.trimRightS
 show (List.dropWhile isD (List.dropWhile isD s.reverse).reverse=[])↔_
 rw [Wa,List.all_reverse]
 constructor
 ·intro h
  cases hd:List.dropWhile isD s.reverse with
  | nil =>
   have:=(Wa isD s.reverse).1 hd
   rwa [List.all_reverse] at this
  | cons c t =>
   have h1:=z9n isD _ _ _ hd
   rw [hd] at h
   simp [h1] at h
 ·intro h
  rw [(Wa isD s.reverse).2 (by rw [List.all_reverse]; exact h)]; rfl
theorem y0i (s:Bs) (h:s.length≤1000000000):∃ t,uc s ddL=some t∧decide (t=[])=s.all isD:=by
 unfold uc
 rw [if_pos ⟨⟨h,by decide⟩,by decide⟩]
 refine ⟨_,rfl,?_⟩
 rw [Bool.eq_iff_iff]
 simpa using y4q s
def lgB (x:Bs):Bool:=decide (x≠[]) && (x.all isD && (decide (x.head?≠some 48) || decide (x=[48])))
theorem y15 (x:Bs) (h:x.length≤1000000):z2w x=some (lgB x)∧z3h x=some (lgB x):=by
 obtain ⟨t,t1,t2⟩:=y0i x (by omega)
 have t1':uc x [48,49,50,51,52,53,54,55,56,57]=some t:=t1
 have ho:=xn x ddL (by omega)
 have ho':vn x [48,49,50,51,52,53,54,55,56,57]=some (x.all isD):=ho
 unfold z2w z3h xo Zp lgB
 rw [t1',ho']
 simp only [Option.bind_some,t2]
 cases x with
 | nil=>exact ⟨rfl,rfl⟩
 | cons c r =>
  have e48:decide ((c.toNat:Int)≠48)=decide ((c::r).head?≠some 48):=by
   rw [decide_eq_decide]
   simp only [List.head?_cons,ne_eq,Option.some.injEq]
   constructor
   ·intro h1 h2; exact h1 (by rw [h2]; rfl)
   ·intro h1 h2; exact h1 (UInt8.toNat_inj.1 (by simp; omega))
  simp only [List.getElem?_cons_zero,Option.bind_some,e48]
  cases (c::r).all isD
  ·exact ⟨by simp,by simp⟩
  ·cases decide ((c::r).head?≠some 48) <;> cases decide (c::r=[48]) <;> exact ⟨rfl,rfl⟩
theorem y70 {x:Bs} (h:lgB x=true):0≤valB x:=by
 unfold lgB at h
 simp only [Bool.and_eq_true] at h
 cases x with
 | nil=>simp at h
 | cons c r =>
  have hc:isD c=true:=by have:=h.2.1; simp at this; exact this.1
  have h4:=z1j c hc
  have hne:c≠45:=fun e=>by subst e; simp at h4
  rw [z1p c r hne]; omega
def vl (n:Bs) (l:List zk):List Bs:=yl n l
theorem uj {l:List zk} (h:∀ y,y∈l→hdOK y):∀ x,x∈l→nmOK x:=fun x hx=>⟨y4s (h x hx).1,by have:=y0k (h x hx).1; omega⟩
theorem z7b {l:List zk} (h:∀ y,y∈l→hdOK y) (n:Bs):∀ v,v∈yl n l→fldB v=true:=fun v hv=>by
 unfold yl at hv
 obtain ⟨x,hx,rfl⟩:=List.mem_map.1 hv
 exact (h x (List.mem_filter.1 hx).1).2
def frE (hosts:Int) (c t:List Bs):Int:=if decide (1 < hosts) || decide (1 < (c.length:Int)) || decide (1 < (t.length:Int)) then 6 else match c,t with
 | _::_,_::_=>13
 | [],[]=>0
 | x::_,[]=>if lgB x then 0 else 3
 | [],y::_=>if y=[99,104,117,110,107,101,100] then 0 else 3
theorem x0p (l:List zk) (hosts:Int) (h:∀ y,y∈l→hdOK y) (hl:l.length≤1000):z2y l hosts=some (frE hosts (yl cl_ l) (yl te_ l)):=by
 have v1:=We l cl_ hl (uj h) ⟨rfl,by decide⟩
 have v2:=We l te_ hl (uj h) ⟨rfl,by decide⟩
 have hf:=z7b h cl_
 unfold z2y frE
 show (jk l cl_).bind _=_
 rw [v1.1]
 simp only [Option.bind_some]
 show (jk l te_).bind _=_
 rw [v2.1]
 simp only [Option.bind_some]
 generalize yl cl_ l=c at *
 generalize yl te_ l=t at *
 split
 ·rfl
 ·rename_i hn
  simp only [Bool.or_eq_true,decide_eq_true_eq,not_or] at hn
  cases c with
  | nil =>
   cases t with
   | nil=>rfl
   | cons y t =>
    have ht:t=[]:=List.length_eq_zero_iff.1 (by have:=hn.2; simp at this; omega)
    subst ht
    simp only [List.length_nil,List.length_cons,List.getElem?_cons_zero,Option.bind_some,ub]
    by_cases hy:y=[99,104,117,110,107,101,100] <;> simp [hy]
  | cons x c =>
   have hc:c=[]:=List.length_eq_zero_iff.1 (by have:=hn.1.2; simp at this; omega)
   subst hc
   have hx:=(y15 x (by have:=z60 (hf x (by simp)); omega)).1
   cases t with
   | nil =>
    simp only [List.length_nil,List.length_cons,List.getElem?_cons_zero,Option.bind_some,ub]
    rw [hx]
    cases lgB x <;> simp
   | cons y t =>
    have ht:t=[]:=List.length_eq_zero_iff.1 (by have:=hn.2; simp at this; omega)
    subst ht
    simp
theorem y0g (l:List zk) (names:List Bs) (h:∀ y,y∈l→hdOK y) (hl:l.length≤1000) (hn:∀ n,n∈names→ascB n=true∧n.length≤100000) (hns:names.length≤1000):Zg l names=some (names.any fun n=>decide (1 < ((yl n l).length:Int))):=by
 have c1:z5z names (fun (a0:Bs)=>Yt a0 l)=some (names.any fun n=>decide (1 < ((yl n l).length:Int))):=
  x0o names (fun n=>decide (1 < ((yl n l).length:Int))) (by omega) fun n hm=>by
   have v:=We l n hl (uj h) (hn n hm)
   show Yt n l=_
   unfold Yt
   rw [v.2]; rfl
 unfold Zg
 rw [c1]; rfl
theorem x1t (l:List zk) (f rest:Bs) (h:∀ y,y∈l→hdOK y) (hl:l.length≤1000) (hr:rest.length≤100000) (hosts:Int) (h6:frE hosts (yl cl_ l) (yl te_ l)≠6) :
  ∃ (b:Bs) (n:Nat) (e:Int),n≤rest.length∧Yv (qp.mk f l rest)=some (if e≠0 then ([],[],e) else (b,rest.drop n,0)) ∧
   (frE hosts (yl cl_ l) (yl te_ l)≠0→e=frE hosts (yl cl_ l) (yl te_ l))∧(frE hosts (yl cl_ l) (yl te_ l)=0→∃ b' n',z23 l rest=some (b',n',e)∧(e=0→b'=b∧n'=(n:Int))):=by
 have v1:=We l cl_ hl (uj h) ⟨rfl,by decide⟩
 have v2:=We l te_ hl (uj h) ⟨rfl,by decide⟩
 have hf:=z7b h cl_
 unfold Yv z23
 show ∃ (b:Bs) (n:Nat) (e:Int),n≤rest.length∧(vy l cl_).bind _=_∧(_→_)∧(_→∃ b' n',(jk l te_).bind _=some (b',n',e)∧_)
 rw [v1.2,v2.1]
 simp only [Option.bind_some]
 show ∃ (b:Bs) (n:Nat) (e:Int),n≤rest.length∧(vy l te_).bind _=_∧_
 rw [v2.2]
 simp only [Option.bind_some]
 have v1':jk l [99,111,110,116,101,110,116,45,108,101,110,103,116,104]=some (yl cl_ l):=v1.1
 rw [v1']
 simp only [Option.bind_some]
 generalize yl cl_ l=c at *
 generalize yl te_ l=t at *
 unfold frE at h6 ⊢
 by_cases hn:(decide (1 < hosts) || decide (1 < (c.length:Int)) || decide (1 < (t.length:Int)))=true
 ·rw [if_pos hn] at h6; exact absurd rfl h6
 ·rw [if_neg hn] at h6 ⊢
  simp only [Bool.or_eq_true,decide_eq_true_eq,not_or] at hn
  cases c with
  | nil =>
   cases t with
   | nil =>
    refine ⟨[],0,0,by omega,?_,fun h=>absurd rfl h,fun _=>⟨[],0,?_,fun _=>⟨rfl,rfl⟩⟩⟩
    ·simp
    ·simp
   | cons y t =>
    have ht:t=[]:=List.length_eq_zero_iff.1 (by have:=hn.2; simp at this; omega)
    subst ht
    simp only [List.length_nil,List.length_cons,List.getElem?_cons_zero,Option.bind_some]
    by_cases hy:y=[99,104,117,110,107,101,100]
    ·obtain ⟨r,r1,r2,r3⟩:=y4f rest (by omega)
     rw [r1,r2]
     simp only [Option.bind_some,hy]
     by_cases hz:r.2.2=0
     ·obtain ⟨b1,b2⟩:=r3 hz
      refine ⟨r.1,r.2.1.toNat,0,by omega,?_,fun h=>absurd (by simp) h,fun _=>⟨r.1,r.2.1,by simp [hz],fun _=>⟨rfl,by omega⟩⟩⟩
      have hsub:sub? rest r.2.1 (rest.length:Int)=some (rest.drop r.2.1.toNat):=by
       have:=Wm rest r.2.1.toNat (by omega)
       rwa [show ((r.2.1.toNat:Nat):Int)=r.2.1 by omega] at this
      simp [hz,hsub]
     ·refine ⟨[],0,r.2.2,by omega,?_,fun h=>absurd (by simp) h,fun _=>⟨r.1,r.2.1,by simp,fun h=>absurd h hz⟩⟩
      simp [hz]
    ·refine ⟨[],0,3,by omega,?_,fun _=>by simp [hy],fun h=>absurd h (by simp [hy])⟩
     simp [hy]
  | cons x c =>
   have hc:c=[]:=List.length_eq_zero_iff.1 (by have:=hn.1.2; simp at this; omega)
   subst hc
   have hxl:=z60 (hf x (by simp))
   have hx:=(y15 x (by omega)).2
   cases t with
   | nil =>
    obtain ⟨w,w1,w2,_⟩:=y1f x 9 (by omega) (by omega)
    have w1':Zi x 9=some (w,okN 9 x):=w1
    have hk:Yq x=some (if okN 9 x then valB x else 0,okN 9 x):=by
     have hk1:Yr x 9=some (if okN 9 x then valB x else 0,okN 9 x):=y16 x 9 (by omega) (by omega)
     unfold Yq
     rw [hk1]; rfl
    simp only [List.length_nil,List.length_cons,List.getElem?_cons_zero,Option.bind_some]
    rw [hx,w1',hk]
    simp only [Option.bind_some]
    cases hg:lgB x
    ·refine ⟨[],0,3,by omega,?_,fun _=>by simp,fun h=>absurd h (by simp)⟩
     simp
    ·have hnn:=y70 hg
     cases ho:okN 9 x
     ·refine ⟨[],0,2,by omega,?_,fun h=>absurd (by simp) h,fun _=>⟨[],0,?_,fun h=>absurd h (by decide)⟩⟩
      ·simp
      ·simp
     ·have hw:=w2 ho
      subst hw
      by_cases hL:20000 < valB x
      ·refine ⟨[],0,2,by omega,?_,fun h=>absurd (by simp) h,fun _=>⟨[],0,?_,fun h=>absurd h (by decide)⟩⟩
       ·simp [hL]
       ·simp [hL]
      ·by_cases hA:(rest.length:Int) < valB x
       ·refine ⟨[],0,9,by omega,?_,fun h=>absurd (by simp) h,fun _=>⟨[],0,?_,fun h=>absurd h (by decide)⟩⟩
        ·simp [hL,hA]
        ·simp [hL,hA]
       ·have e1:((valB x).toNat:Int)=valB x:=by omega
        have s1:sub? rest 0 (valB x)=some (rest.take (valB x).toNat):=by
         have:=Zw rest (valB x).toNat (by omega)
         rwa [e1] at this
        have s2:sub? rest (valB x) (rest.length:Int)=some (rest.drop (valB x).toNat):=by
         have:=Wm rest (valB x).toNat (by omega)
         rwa [e1] at this
        refine ⟨rest.take (valB x).toNat,(valB x).toNat,0,by omega,?_,fun h=>absurd (by simp) h,fun _=>⟨rest.take (valB x).toNat,valB x,?_,fun _=>⟨rfl,e1.symm⟩⟩⟩
        ·simp [hL,hA,s1,s2]
        ·simp [hL,hA,s1]
   | cons y t =>
    refine ⟨[],0,13,by omega,?_,fun _=>rfl,fun h=>absurd h (by simp)⟩
    simp
theorem y1d (s f rest:Bs) (l:List zk) (h:∀ y,y∈l→hdOK y) (hl:l.length≤1000) (hs:s.length≤60000) (hsuf:rest <:+ s) (hosts:Int) :
  ∃ (b:Bs) (n:Nat) (e:Int),z0v (wq.mk f l ((s.length - rest.length:Nat):Int)) s hosts=some (if e≠0 then ([],[],0,e) else (l.filter fun x => !frB x,b,wr ((s.length:Int) - ((rest.drop n).length:Int)),0)) ∧
   (frE hosts (yl cl_ l) (yl te_ l)=6→e=6)∧(frE hosts (yl cl_ l) (yl te_ l)≠6→Yv (qp.mk f l rest)=some (if e≠0 then ([],[],e) else (b,rest.drop n,0))):=by
 have hrl:=hsuf.length_le
 have hdr:s.drop (s.length - rest.length)=rest:=(List.suffix_iff_eq_drop.1 hsuf).symm
 unfold z0v
 rw [x0p l hosts h hl]
 simp only [Option.bind_some]
 by_cases h6:frE hosts (yl cl_ l) (yl te_ l)=6
 ·refine ⟨[],0,6,?_,fun _=>rfl,fun hh=>absurd h6 hh⟩
  rw [h6]; simp
 ·obtain ⟨b,n,e,hn,b1,b2,b3⟩:=x1t l f rest h hl (by omega) hosts h6
  by_cases hz:frE hosts (yl cl_ l) (yl te_ l)=0
  ·obtain ⟨b',n',c1,c2⟩:=b3 hz
   refine ⟨b,n,e,?_,fun hh=>absurd hh h6,fun _=>b1⟩
   have hsub:=Wm s (s.length - rest.length) (by omega)
   rw [hz,hsub,hdr]
   simp only [ne_eq,not_true_eq_false,decide_false,Bool.false_eq_true,if_false,Option.bind_some]
   rw [c1]
   simp only [Option.bind_some]
   by_cases he:e=0
   ·obtain ⟨rfl,rfl⟩:=c2 he
    have hcl:kn l=some l:=by unfold kn; rw [if_pos (by omega)]
    have hdel:xz l (fun (a0:zk)=>Yn a0)=some (l.filter fun x => !frB x):=
     z9g (zk.mk [] []) l frB (by omega) fun x hx=>x0q x (uj h x hx)
    rw [if_neg (by simpa using he),if_neg (by simpa using he),hcl]
    simp only [Option.bind_some]
    rw [hdel]
    simp only [Option.bind_some,List.length_drop]
    have:wr (((s.length - rest.length:Nat):Int)+(n:Int))=wr ((s.length:Int) - ((rest.length - n:Nat):Int)):=by congr 1; omega
    rw [this]
   ·rw [if_pos (by simpa using he),if_pos he]
  ·have e1:=b2 hz
   refine ⟨b,n,e,?_,fun hh=>absurd hh h6,fun _=>b1⟩
   rw [if_pos (show decide (frE hosts (yl cl_ l) (yl te_ l)≠0)=true by simpa using hz),if_pos (show e≠0 by rw [e1]; exact hz),e1]
theorem y01 (hosts:Int) (c t:List Bs):(frE hosts c t=6)↔(decide (1 < hosts) || decide (1 < (c.length:Int)) || decide (1 < (t.length:Int)))=true:=by
 unfold frE
 constructor
 ·intro h
  split at h
  ·assumption
  ·split at h
   ·simp at h
   ·simp at h
   ·split at h <;> simp at h
   ·split at h <;> simp at h
 ·intro h
  rw [if_pos h]
theorem y1i (l:List zk) (req:Bool) (h:∀ y,y∈l→hdOK y) (hl:l.length≤1000):z0m l req=some (l.filter fun x => !owB req x):=by
 have hcl:kn l=some l:=by unfold kn; rw [if_pos (by omega)]
 have hdel:xz l (fun (a0:zk)=>Yu a0 req)=some (l.filter fun x => !owB req x):=
  z9g (zk.mk [] []) l (owB req) (by omega) fun x hx=>by
   show Yu x req=_
   unfold Yu
   rw [y1p x req (uj h x hx)]; rfl
 unfold z0m
 rw [hcl]
 simp only [Option.bind_some]
 rw [hdel]; rfl
theorem y29 {l:List zk} (h:∀ y,y∈l→hdOK y) (hl:l.length≤1000):hdsP l:=⟨hl,fun y hy=>⟨by have:=y0k (h y hy).1; omega,by have:=z60 (h y hy).2; omega⟩⟩
theorem y4b (l:List zk) (n:Bs) (h:∀ x,x∈l→nmOK x) (hl:l.length≤1000000) (hn:ascB n=true∧n.length≤100000):∃ v,vy l n=some v:=by
 have:Ok (vy l n) fun _=>True:=by
  unfold vy
  refine ok_g (by omega) ?_
  refine z5e (fun j (q:List Bs)=>q.length≤j) l 0 [] (by simp) (fun j x q _ hx hq => ?_) (fun q _=>ym trivial)
  have hj:j < l.length:=by have:=z3w hx; omega
  unfold Zq
  rw [z9x x.Name n (h x (List.mem_of_getElem? hx)) hn]
  simp only [Option.bind_some]
  refine qu (fun _=>ok_g (by omega) (ym ?_)) (fun _=>ym ?_)
  ·show (q++[x.Value]).length≤j+1
   simp; omega
  ·show q.length≤j+1
   omega
 obtain ⟨v,hv,_⟩:=this
 exact ⟨v,hv⟩
def zRq:yd:=yd.mk 0 [] [] [] [] [] [] []
theorem y6z (s:Bs):∃ q,z28 s=some q∧z3n s=some q∧q.1.Headers.length≤1000000000:=by
 unfold z28 z3n
 by_cases hL:60000 < (s.length:Int)
 ·rw [if_pos (show decide (60000 < (s.length:Int))=true by simpa using hL),if_pos (show decide (60000 < (s.length:Int))=true by simpa using hL)]
  exact ⟨_,rfl,rfl,by simp⟩
 rw [if_neg (show ¬ decide (60000 < (s.length:Int))=true by simpa using hL),if_neg (show ¬ decide (60000 < (s.length:Int))=true by simpa using hL)]
 have hW:∀ f:Bs,f.length≤100000→vw f [32]=some (spl 32 f)∧z3c f=some (spl 32 f,!(spl 32 f).any fun x=>decide (([]:Bs)=x))∧Yl (spl 32 f) []=some ((spl 32 f).any fun x=>decide (([]:Bs)=x))∧∀ x,x∈spl 32 f→x.length≤100000:=by
  intro f hf
  have h1:vw f [32]=some (spl 32 f):=by
   unfold vw
   rw [if_pos ⟨by omega,by simp⟩,z45]
  have h3:=z7t 32 f
  have h2:Yl (spl 32 f) []=some ((spl 32 f).any fun x=>decide (([]:Bs)=x)):=by
   unfold Yl
   have hi:z5y (spl 32 f) []=some (fdx (fun x=>decide (([]:Bs)=x)) 0 (spl 32 f)):=z9f (spl 32 f) (p:=fun x=>some (decide (([]:Bs)=x))) (fun x=>decide (([]:Bs)=x)) (by omega) fun _ _=>rfl
   rw [hi]
   simp only [Option.bind_some]
   rw [z9m]
  refine ⟨h1,?_,h2,fun x hx=>by have:=z47 32 f x hx; omega⟩
  unfold z3c
  rw [h1]
  simp only [Option.bind_some]
  rw [h2]; rfl
 have hPT:∀ r3 r5,kb s r3 r5 true=some (zRq,0,9):=fun _ _=>rfl
 have hRT:∀ r3 r5,kh s r3 r5 true=some (zRq,0,9):=fun _ _=>rfl
 rcases y26 s (by omega) with ⟨x,z,x1,x2,x3,z1,z2,z3⟩ | ⟨f,l,rest,x1,z1,hf,hg,hl,hsuf⟩
 ·rw [x1,z1]
  simp only [Option.bind_some]
  rw [(hW _ x3).2.1,(hW _ z3).1]
  simp only [Option.bind_some]
  rw [x2,if_pos (by simp),if_pos (show decide (z.2≠0)=true by simpa using z2),hPT,hRT]
  exact ⟨_,rfl,rfl,by simp [zRq]⟩
 ·obtain ⟨w1,w2,w3,w4⟩:=hW f hf
  rw [x1,z1]
  simp only [Option.bind_some]
  rw [w2,w1]
  simp only [Option.bind_some,Bool.not_true,Bool.false_eq_true,if_false,ne_eq,not_true_eq_false,decide_false,Bool.not_not]
  rw [w3]
  generalize spl 32 f=w at *
  have hH:(w.any fun x=>decide (([]:Bs)=x))=true∨¬ (w.length:Int)=3→∃ q,(if (w.any fun x=>decide (([]:Bs)=x))=true then kb s (wq.mk f l ((s.length - rest.length:Nat):Int),true) (w,!w.any fun x=>decide (([]:Bs)=x)) true else if decide (¬ (w.length:Int)=3)=true then kb s (wq.mk f l ((s.length - rest.length:Nat):Int),true) (w,!w.any fun x=>decide (([]:Bs)=x)) true else (w[2]?).bind fun x13=>kb s (wq.mk f l ((s.length - rest.length:Nat):Int),true) (w,!w.any fun x=>decide (([]:Bs)=x)) (decide ¬ x13=[72,84,84,80,47,49,46,49]))=some q ∧
    (if decide (¬ (w.length:Int)=3)=true then kh s (qp.mk f l rest,0) w true else (some (w.any fun x=>decide (([]:Bs)=x))).bind fun r11=>if r11=true then kh s (qp.mk f l rest,0) w true else (w[2]?).bind fun x15=>kh s (qp.mk f l rest,0) w (decide ¬ x15=[72,84,84,80,47,49,46,49]))=some q∧q.1.Headers.length≤1000000000:=by
   intro hh
   simp only [Option.bind_some]
   refine ⟨(zRq,0,9),?_,?_,by simp [zRq]⟩
   ·split
    ·exact hPT _ _
    ·rename_i h1
     rcases hh with hh | hh
     ·exact absurd hh h1
     ·rw [if_pos (by simpa using hh)]; exact hPT _ _
   ·split
    ·exact hRT _ _
    ·rename_i h1
     rcases hh with hh | hh
     ·rw [if_pos hh]; exact hRT _ _
     ·exact absurd (by simpa using hh) h1
  by_cases hE:(w.any fun x=>decide (([]:Bs)=x))=true
  ·exact hH (.inl hE)
  by_cases h3':¬ (w.length:Int)=3
  ·exact hH (.inr h3')
  have h3:(w.length:Int)=3:=by simpa using h3'
  clear hH
  have hE':(w.any fun x=>decide (([]:Bs)=x))=false:=eq_false_of_ne_true hE
  rw [hE']
  have h3n:w.length=3:=by omega
  obtain ⟨a,b,c,rfl⟩:∃ a b c,w=[a,b,c]:=by
   match w,h3n with
   | [a,b,c],_=>exact ⟨a,b,c,rfl⟩
  have hal:=w4 a (by simp)
  have hbl:=w4 b (by simp)
  simp only [Bool.false_eq_true,if_false,List.length_cons,List.length_nil,Option.bind_some,List.getElem?_cons_succ,List.getElem?_cons_zero]
  rw [if_neg (by simp),if_neg (by simp)]
  by_cases hP:¬ c=[72,84,84,80,47,49,46,49]
  ·rw [show decide (¬ c=[72,84,84,80,47,49,46,49])=true by simpa using hP,hPT,hRT]
   exact ⟨_,rfl,rfl,by simp [zRq]⟩
  rw [show decide (¬ c=[72,84,84,80,47,49,46,49])=false by simpa using hP]
  unfold kb kh
  simp only [Bool.false_eq_true,if_false]
  by_cases h50:50 < (l.length:Int)
  ·have hv0:∃ v,vy l [104,111,115,116]=some v:=y4b l ho_ (uj hg) (by omega) ⟨rfl,by decide⟩
   obtain ⟨v,hv⟩:=hv0
   rw [hv]
   simp only [Option.bind_some]
   rw [if_pos (show decide (50 < (l.length:Int))=true by simpa using h50),if_pos (show decide (50 < (l.length:Int))=true by simpa using h50)]
   exact ⟨_,rfl,rfl,by simp⟩
  have h50':¬ decide (50 < (l.length:Int))=true:=by simpa using h50
  have hl50:l.length≤1000:=by omega
  have v1:=We l ho_ hl50 (uj hg) ⟨rfl,by decide⟩
  have hvf:=z7b hg ho_
  have v1a:jk l [104,111,115,116]=some (yl ho_ l):=v1.1
  have v1b:vy l [104,111,115,116]=some (yl ho_ l):=v1.2
  rw [if_neg h50',v1a,v1b]
  simp only [Option.bind_some]
  rw [if_neg h50']
  obtain ⟨bd,n,e,r1,r2,r3⟩:=y1d s f rest l hg hl50 (by omega) hsuf ((yl ho_ l).length:Int)
  have tw:=y0g l [ho_,cl_,te_] hg hl50 (by decide) (by decide)
  have tw':Zg l [[104,111,115,116],[99,111,110,116,101,110,116,45,108,101,110,103,116,104],[116,114,97,110,115,102,101,114,45,101,110,99,111,100,105,110,103]]=some ([ho_,cl_,te_].any fun n=>decide (1 < ((yl n l).length:Int))):=tw
  have h6:=y01 ((yl ho_ l).length:Int) (yl cl_ l) (yl te_ l)
  have hany:([ho_,cl_,te_].any fun n=>decide (1 < ((yl n l).length:Int)))=(decide (1 < ((yl ho_ l).length:Int)) || decide (1 < ((yl cl_ l).length:Int)) || decide (1 < ((yl te_ l).length:Int))):=by
   simp only [List.any_cons,List.any_nil,Bool.or_false,Bool.or_assoc]
  rw [tw',r1,hany]
  cases hv:yl ho_ l with
  | nil =>
   simp only [List.length_nil]
   rw [if_pos (by decide),if_pos (by decide)]
   exact ⟨_,rfl,rfl,by simp⟩
  | cons h0 t =>
   rw [hv] at h6 r2 r3
   have hne:¬ decide (((h0::t).length:Int)=0)=true:=by simp; omega
   rw [if_neg hne,if_neg hne]
   simp only [Option.bind_some]
   by_cases k6:frE ((h0::t).length:Int) (yl cl_ l) (yl te_ l)=6
   ·rw [if_pos (h6.1 k6),r2 k6]
    exact ⟨_,rfl,rfl,by simp⟩
   ·have k6':¬ (decide (1 < ((h0::t).length:Int)) || decide (1 < ((yl cl_ l).length:Int)) || decide (1 < ((yl te_ l).length:Int)))=true:=fun hh=>k6 (h6.2 hh)
    rw [if_neg k6',r3 k6]
    simp only [Option.bind_some]
    by_cases he:e=0
    ·have hen:¬ e≠0:=by simpa using he
     rw [if_neg hen,if_neg hen]
     simp only [ne_eq,not_true_eq_false,decide_false,Bool.false_eq_true,if_false,List.getElem?_cons_succ,List.getElem?_cons_zero,Option.bind_some]
     have hwo:z0h (l.filter fun x => !frB x) [104,111,115,116]=some ((l.filter fun x => !frB x).filter fun x => !nmB ho_ x):=
      y39 _ ho_ (by have:=List.length_filter_le (fun x => !frB x) l; omega) (fun x hx=>uj hg x (List.mem_filter.1 hx).1) rfl
     have hfe:((l.filter fun x => !frB x).filter fun x => !nmB ho_ x)=l.filter fun x => !owB true x:=by
      rw [List.filter_filter]
      congr 1
      funext x
      unfold owB
      cases nmB ho_ x <;> cases frB x <;> rfl
     have hcu:wo b [63]=some (Lib.cut b [63]):=by unfold wo; rw [if_pos (by omega)]
     have hcl:=z65 b 63
     have hpl:=y1i l true hg hl50
     have hfl:(l.filter fun x => !owB true x).length≤1000:=by have:=List.length_filter_le (fun x => !owB true x) l; omega
     rw [hwo,hcu,hpl,hfe]
     simp only [Option.bind_some]
     have hh0:=hvf h0 (by rw [hv]; simp)
     have hgen:=y60 (yd.mk 0 a h0 (Lib.cut b [63]).1 (Lib.cut b [63]).2.1 [] (l.filter fun x => !owB true x) bd) hal ⟨by have:=z60 hh0; show h0.length≤_; omega,y1c (x0w hh0)⟩ (by show (Lib.cut b [63]).1.length≤_; omega) (by show (Lib.cut b [63]).2.1.length≤_; omega) (by simp) (y29 (fun y hy=>hg y (List.mem_filter.1 hy).1) hfl)
     obtain ⟨g,g1,g2⟩:=hgen
     rw [g1,g2]
     simp only [Option.bind_some]
     by_cases hz:g=0
     ·rw [if_neg (show ¬ decide (g≠0)=true by simpa using hz)]
      exact ⟨_,rfl,rfl,by show (l.filter fun x => !owB true x).length≤_; omega⟩
     ·rw [if_pos (show decide (g≠0)=true by simpa using hz)]
      exact ⟨_,rfl,rfl,by simp⟩
    ·rw [if_pos he,if_pos he]
     simp only
     have hd:decide (e≠0)=true:=by simpa using he
     rw [if_pos hd,if_pos hd]
     exact ⟨_,rfl,rfl,by simp⟩
def pxH:Bs:=[72,84,84,80,47,49,46,49,32]
def stG (r:Bs):Bool:=decide (4≤r.length) && ((r.take 3).all isD && (decide (r[3]?=some 32) && rgB r 32 126))
theorem y6v (r:Bs) (h4:4≤r.length) (hd:(r.take 3).all isD=true) (h3:r[3]?=some 32):rgB (r.drop 4) 32 126=rgB r 32 126:=by
 have e:r=r.take 3++(32::r.drop 4):=by
  have h5:r.drop 3=32::r.drop 4:=by
   rw [List.drop_eq_getElem_cons (by omega)]
   have:=List.getElem?_eq_getElem (l:=r) (i:=3) (by omega)
   rw [h3] at this
   rw [← Option.some.inj this]
  rw [← h5,List.take_append_drop]
 have hall:rgB (r.take 3) 32 126=true:=by
  unfold rgB
  rw [List.all_eq_true] at hd ⊢
  intro c hc
  have:=z1j c (hd c hc)
  rw [xm]
  simp
  omega
 have h32:rgB [32] 32 126=true:=by decide
 have hsp:∀ a b:Bs,rgB (a++b) 32 126=(rgB a 32 126 && rgB b 32 126):=fun a b=>by unfold rgB; rw [List.all_append]
 have:rgB r 32 126=rgB (r.take 3++([32]++r.drop 4)) 32 126:=by
  show rgB r 32 126=rgB (r.take 3++(32::r.drop 4)) 32 126
  rw [← e]
 rw [this,hsp,hsp,hall,h32]; rfl
theorem x1b (s p:Bs) (hs:s.length≤1000000000):Ok (ud s p) fun r=>r.1.length≤s.length:=by
 unfold ud z55 z52 z0z
 refine yn (Q:=fun (r:Bs×Bool)=>r.1.length≤s.length) ?_ (fun r h=>ym h)
 refine yn (Q:=fun (b:Bool)=>b=true→p.length≤s.length) ?_ ?_
 ·refine qu (fun h => ?_) (fun _=>ym (fun h=>by cases h))
  have h:(p.length:Int)≤(s.length:Int):=by simpa using h
  exact yn (uq s 0 _ ⟨by omega,by omega,by omega⟩) fun l _=>ym fun _=>by omega
 ·intro b hb
  refine qu (fun _=>ym (Nat.le_refl _)) (fun h => ?_)
  have h1:b=true:=by simpa using h
  have h2:=hb h1
  exact yn (uq s _ _ ⟨by omega,by omega,by omega⟩) fun l hl=>ym (by simp only; omega)
theorem z7s (f:Bs) (hf:f.length≤100000):∃ p:Bs×Bool,ud f pxH=some p∧p.1.length≤100000∧z2r f=some (if p.2 && stG p.1 then ((nvB (p.1.take 3):Int),true) else (0,false)) ∧
  (stG p.1=true→sub? p.1 0 3=some (p.1.take 3)∧jv (p.1.take 3)=some ((nvB (p.1.take 3):Int),0)):=by
 obtain ⟨p,hp,hpl⟩:=x1b f pxH (by omega)
 have hA:stG p.1=true→sub? p.1 0 3=some (p.1.take 3)∧jv (p.1.take 3)=some ((nvB (p.1.take 3):Int),0):=fun h=>by
  unfold stG at h
  simp only [Bool.and_eq_true,decide_eq_true_eq] at h
  refine ⟨Zw p.1 3 (by omega),y3v _ h.2.1 ?_ (by rw [List.length_take]; omega)⟩
  intro e
  have h9:(p.1.take 3).length=3:=by rw [List.length_take]; omega
  rw [e] at h9
  cases h9
 refine ⟨p,hp,by omega,?_,hA⟩
 unfold z2r uu
 show (ud f pxH).bind _=_
 rw [hp]
 simp only [Option.bind_some]
 cases p.2
 ·rfl
 ·simp only [Bool.not_true,Bool.false_eq_true,if_false,Bool.true_and]
  by_cases h4:4≤p.1.length
  ·rw [if_neg (show ¬ decide ((p.1.length:Int) < 4)=true by simp; omega)]
   have s1:sub? p.1 0 3=some (p.1.take 3):=Zw p.1 3 (by omega)
   obtain ⟨t,t1,t2⟩:=y0i (p.1.take 3) (by rw [List.length_take]; omega)
   have t1':uc (p.1.take 3) [48,49,50,51,52,53,54,55,56,57]=some t:=t1
   rw [s1]
   simp only [Option.bind_some]
   rw [t1']
   simp only [Option.bind_some]
   cases hd:(p.1.take 3).all isD
   ·rw [hd] at t2
    have ht:t≠[]:=by simpa using t2
    rw [if_pos (show decide (t≠[])=true by simpa using ht)]
    have:stG p.1=false:=by unfold stG; rw [hd]; simp
    rw [this]; rfl
   ·rw [hd] at t2
    have ht:t=[]:=by simpa using t2
    rw [if_neg (show ¬ decide (t≠[])=true by simpa using ht)]
    obtain ⟨c,hc⟩:∃ c,p.1[3]?=some c:=⟨_,List.getElem?_eq_getElem (by omega)⟩
    rw [hc]
    simp only [Option.bind_some]
    by_cases h32:c=32
    ·subst h32
     rw [if_neg (by decide)]
     have s2:sub? p.1 4 (p.1.length:Int)=some (p.1.drop 4):=Wm p.1 4 (by omega)
     rw [s2]
     simp only [Option.bind_some]
     rw [Zk _ _ _ (by rw [List.length_drop]; omega),y6v p.1 h4 hd hc]
     simp only [Option.bind_some]
     have hst:stG p.1=rgB p.1 32 126:=by unfold stG; rw [hd,hc]; simp [h4]
     cases hr:rgB p.1 32 126
     ·rw [hst,hr]; rfl
     ·have:=hA (by rw [hst,hr])
      rw [hst,hr]
      simp only [Bool.not_true,Bool.false_eq_true,if_false,if_true]
      rw [this.2]; rfl
    ·have hcn:decide ((c.toNat:Int)≠32)=true:=by
      simp only [decide_eq_true_eq]
      intro h
      exact h32 (UInt8.toNat_inj.1 (by simp; omega))
     rw [if_pos hcn]
     have:stG p.1=false:=by unfold stG; rw [hc]; simp [h32]
     rw [this]; rfl
  ·rw [if_pos (show decide ((p.1.length:Int) < 4)=true by simp; omega)]
   have:stG p.1=false:=by unfold stG; simp [h4]
   rw [this]; rfl
def zRs:yj:=yj.mk 0 [] []
theorem y6x (s:Bs):∃ q,z26 s=some q∧z3k s=some q∧q.1.Headers.length≤1000000000:=by
 unfold z26 z3k
 by_cases hL:60000 < (s.length:Int)
 ·rw [if_pos (show decide (60000 < (s.length:Int))=true by simpa using hL),if_pos (show decide (60000 < (s.length:Int))=true by simpa using hL)]
  exact ⟨_,rfl,rfl,by simp⟩
 rw [if_neg (show ¬ decide (60000 < (s.length:Int))=true by simpa using hL),if_neg (show ¬ decide (60000 < (s.length:Int))=true by simpa using hL)]
 have hRT:∀ r3 r5,vz s r3 r5 true=some (zRs,0,9):=fun _ _=>rfl
 rcases y26 s (by omega) with ⟨x,z,x1,x2,x3,z1,z2,z3⟩ | ⟨f,l,rest,x1,z1,hf,hg,hl,hsuf⟩
 ·rw [x1,z1]
  simp only [Option.bind_some]
  obtain ⟨p,_,_,p3,_⟩:=z7s _ x3
  obtain ⟨p',q1,_,_,_⟩:=z7s _ z3
  have q1':ud z.1.first_ [72,84,84,80,47,49,46,49,32]=some p':=q1
  rw [p3,q1']
  simp only [Option.bind_some]
  rw [x2,if_pos (show decide (z.2≠0)=true by simpa using z2),hRT]
  simp only [Bool.not_false,Bool.true_or,if_true]
  exact ⟨_,rfl,rfl,by simp⟩
 ·rw [x1,z1]
  simp only [Option.bind_some]
  obtain ⟨p,p1,p2,p3,p4⟩:=z7s f hf
  have p1':ud f [72,84,84,80,47,49,46,49,32]=some p:=p1
  rw [p3,p1']
  simp only [Option.bind_some,Bool.not_true,Bool.false_eq_true,if_false,ne_eq,not_true_eq_false,decide_false,Bool.false_or]
  cases hc:p.2
  ·simp only [Bool.false_and,Bool.false_eq_true,if_false,Bool.not_false,if_true]
   rw [hRT]
   exact ⟨_,rfl,rfl,by simp⟩
  simp only [Bool.true_and,Bool.not_true,Bool.false_eq_true,if_false]
  cases hs:stG p.1
  ·simp only [Bool.false_eq_true,if_false,Bool.not_false,if_true]
   have hR:(if decide ((p.1.length:Int) < 4)=true then vz s (qp.mk f l rest,0) p true else (p.1[3]?).bind fun x13=>if decide (¬ (x13.toNat:Int)=32)=true then vz s (qp.mk f l rest,0) p true else (sub? p.1 0 3).bind fun l17=>(vn l17 [48,49,50,51,52,53,54,55,56,57]).bind fun r19=>if (!r19)=true then vz s (qp.mk f l rest,0) p true else (Zf p.1 32).bind fun r23=>vz s (qp.mk f l rest,0) p (!r23))=some (zRs,0,9):=by
    by_cases h4:4≤p.1.length
    ·rw [if_neg (show ¬ decide ((p.1.length:Int) < 4)=true by simp; omega)]
     obtain ⟨c,hcc⟩:∃ c,p.1[3]?=some c:=⟨_,List.getElem?_eq_getElem (by omega)⟩
     rw [hcc]
     simp only [Option.bind_some]
     by_cases h32:c=32
     ·subst h32
      rw [if_neg (by decide),show sub? p.1 0 3=some (p.1.take 3) from Zw p.1 3 (by omega)]
      simp only [Option.bind_some]
      have ho:vn (p.1.take 3) [48,49,50,51,52,53,54,55,56,57]=some ((p.1.take 3).all isD):=xn _ ddL (by rw [List.length_take]; omega)
      rw [ho]
      simp only [Option.bind_some]
      cases hd:(p.1.take 3).all isD
      ·simp only [Bool.not_false,if_true]
       exact hRT _ _
      ·rw [z4l,Zk _ _ _ (by omega)]
       simp only [Option.bind_some,Bool.not_true,Bool.false_eq_true,if_false]
       have hst:stG p.1=rgB p.1 32 126:=by unfold stG; rw [hd,hcc]; simp [h4]
       rw [← hst,hs]
       exact hRT _ _
     ·have hcn:decide (¬ (c.toNat:Int)=32)=true:=by
       simp only [decide_eq_true_eq]
       intro h
       exact h32 (UInt8.toNat_inj.1 (by simp; omega))
      rw [if_pos hcn]
      exact hRT _ _
    ·rw [if_pos (show decide ((p.1.length:Int) < 4)=true by simp; omega)]
     exact hRT _ _
   exact ⟨_,rfl,hR,by simp⟩
  obtain ⟨a1,a2⟩:=p4 hs
  have hs':=hs
  unfold stG at hs'
  simp only [Bool.and_eq_true,decide_eq_true_eq] at hs'
  have ho:vn (p.1.take 3) [48,49,50,51,52,53,54,55,56,57]=some true:=by
   have:vn (p.1.take 3) [48,49,50,51,52,53,54,55,56,57]=some ((p.1.take 3).all isD):=xn _ ddL (by rw [List.length_take]; omega)
   rw [this,hs'.2.1]
  rw [if_neg (show ¬ decide ((p.1.length:Int) < 4)=true by simp; omega),hs'.2.2.1]
  simp only [Option.bind_some,if_true,Bool.not_true,Bool.false_eq_true,if_false]
  rw [if_neg (show ¬ decide (¬ (((32:UInt8).toNat:Nat):Int)=32)=true by decide),a1]
  simp only [Option.bind_some]
  rw [ho]
  simp only [Option.bind_some,Bool.not_true,Bool.false_eq_true,if_false]
  rw [z4l,Zk _ _ _ (by omega),hs'.2.2.2]
  simp only [Option.bind_some,Bool.not_true]
  unfold vz
  simp only [Bool.false_eq_true,if_false]
  by_cases h50:50 < (l.length:Int)
  ·rw [if_pos (show decide (50 < (l.length:Int))=true by simpa using h50),if_pos (show decide (50 < (l.length:Int))=true by simpa using h50)]
   exact ⟨_,rfl,rfl,by simp⟩
  have h50':¬ decide (50 < (l.length:Int))=true:=by simpa using h50
  have hl50:l.length≤1000:=by omega
  rw [if_neg h50',if_neg h50']
  obtain ⟨bd,n,e,r1,r2,r3⟩:=y1d s f rest l hg hl50 (by omega) hsuf 0
  have tw:=y0g l [cl_,te_] hg hl50 (by decide) (by decide)
  have tw':Zg l [[99,111,110,116,101,110,116,45,108,101,110,103,116,104],[116,114,97,110,115,102,101,114,45,101,110,99,111,100,105,110,103]]=some ([cl_,te_].any fun n=>decide (1 < ((yl n l).length:Int))):=tw
  have h6:=y01 0 (yl cl_ l) (yl te_ l)
  have hany:([cl_,te_].any fun n=>decide (1 < ((yl n l).length:Int)))=(decide ((1:Int) < 0) || decide (1 < ((yl cl_ l).length:Int)) || decide (1 < ((yl te_ l).length:Int))):=by
   simp only [List.any_cons,List.any_nil,Bool.or_false]
   rfl
  rw [tw',r1,hany]
  simp only [Option.bind_some]
  by_cases k6:frE 0 (yl cl_ l) (yl te_ l)=6
  ·rw [if_pos (h6.1 k6),r2 k6]
   exact ⟨_,rfl,rfl,by simp⟩
  ·have k6':¬ (decide ((1:Int) < 0) || decide (1 < ((yl cl_ l).length:Int)) || decide (1 < ((yl te_ l).length:Int)))=true:=fun hh=>k6 (h6.2 hh)
   rw [if_neg k6',r3 k6]
   simp only [Option.bind_some]
   by_cases he:e=0
   ·have hen:¬ e≠0:=by simpa using he
    rw [if_neg hen,if_neg hen]
    simp only [ne_eq,not_true_eq_false,decide_false,Bool.false_eq_true,if_false]
    rw [a1]
    simp only [Option.bind_some]
    rw [a2]
    simp only [Option.bind_some]
    have hfe:(l.filter fun x => !frB x)=l.filter fun x => !owB false x:=by
     congr 1
    have hpl:=y1i l false hg hl50
    have hfl:(l.filter fun x => !owB false x).length≤1000:=by have:=List.length_filter_le (fun x => !owB false x) l; omega
    rw [hpl,hfe]
    simp only [Option.bind_some]
    obtain ⟨g,g1,g2⟩:=y6y (yj.mk (nvB (p.1.take 3):Int) (l.filter fun x => !owB false x) bd) (y29 (fun y hy=>hg y (List.mem_filter.1 hy).1) hfl)
    rw [g1,g2]
    simp only [Option.bind_some]
    by_cases hz:g=0
    ·rw [if_neg (show ¬ decide (¬ g=0)=true by simpa using hz)]
     exact ⟨_,rfl,rfl,by show (l.filter fun x => !owB false x).length≤_; omega⟩
    ·rw [if_pos (show decide (¬ g=0)=true by simpa using hz)]
     exact ⟨_,rfl,rfl,by simp⟩
   ·rw [if_pos he,if_pos he]
    simp only
    have hd:decide (¬ e=0)=true:=by simpa using he
    rw [if_pos hd,if_pos hd]
    exact ⟨_,rfl,rfl,by simp⟩
def hdT (h:zk):Prop:=(ascB h.Name=true∧h.Name.length≤30)∧h.Value.length≤30
theorem y1b {k:Int} {s:ya} (h:SB k s) (hk:k≤10000) (most:Int) (hm:0≤most∧most≤10) :
  Ok (z0u s most) fun r=>(r.1.length≤10∧∀ y,y∈r.1→hdT y)∧SB (k+30) r.2:=by
 unfold z0u
 refine yn (y67 h (by omega) 0 most (by omega)) fun r hr=>ok_g (by omega) ?_
 obtain ⟨m,hm2⟩:∃ m:Nat,r.1=(m:Int):=⟨r.1.toNat,by omega⟩
 rw [hm2,Int.toNat_natCast]
 refine z8c (fun j (q:List Int×Int×List zk)=>j≤m∧SB (k+1+2 * (j:Int)) (ya.mk q.1 q.2.1)∧q.2.2.length≤j∧∀ y,y∈q.2.2→hdT y) m 0 _ ⟨by omega,hr.2.mono (by omega),by simp,by simp⟩ ?_ ?_
 ·rintro j ⟨c5,c6,l7⟩ _ hj ⟨h0,h1,h3,h5⟩
  simp only at h1 h3 h5 ⊢
  unfold z6y
  refine yn (y56 h1 (by omega) 30 _ ⟨by simp,by simp⟩ (by decide +kernel)) fun r12 h12=>yn (kk h12.2 (by omega) 30 _ ⟨by simp,by simp⟩ (by decide)) fun r14 h14=>ok_g (by omega) (ym ?_)
  refine ⟨by omega,h14.2.mono (by omega),by simp; omega,fun y hy => ?_⟩
  rcases List.mem_append.1 hy with hy | hy
  ·exact h5 y hy
  ·rw [List.mem_singleton.1 hy]; exact ⟨h12.1,h14.1⟩
 ·rintro ⟨c5,c6,l7⟩ ⟨h0,h1,h3,h5⟩
  simp only at h1 h3 h5 ⊢
  exact ym ⟨⟨by simp only; omega,h5⟩,h1.mono (by omega)⟩
theorem y21 (n:Int) (h:0≤n∧n≤1000000):xy n=some (Lib.itoa n)∧(Lib.itoa n).length≤21:=by
 unfold xy
 rw [if_pos (by omega)]
 exact ⟨rfl,Lib.itoa_length_le n (by omega) (by omega)⟩
theorem y0m (l:List zk) (b:Bs) (req:Bool) (hl:l.length≤10) (h:∀ y,y∈l→hdT y) (hb:b.length≤1000):Ok (z0l l b req) fun t=>t.length≤2000:=by
 unfold z0l
 refine ok_g (by omega) ?_
 have hJ2:∀ x:Bs,x.length≤900→Ok (Qo b x) fun t=>t.length≤2000:=fun x hx=>by
  unfold Qo
  refine ok_g (by simp; omega) (ok_g (by simp; omega) (ym (by simp; omega)))
 refine z5e (fun j (x:Bs)=>x.length≤70 * j) l 0 [] (by simp) (fun j y x _ hy hx => ?_) (fun x hx => ?_)
 ·have hj:j < l.length:=by have:=z3w hy; omega
  obtain ⟨⟨a1,a2⟩,a3⟩:=h y (List.mem_of_getElem? hy)
  unfold z6p z08
  rw [y1p y req ⟨a1,by omega⟩]
  simp only [Option.bind_some]
  refine qu (fun _ => ?_) (fun _=>ym (by show x.length≤70 * (j+1); omega))
  refine ok_g (by simp; omega) (ok_g (by simp; omega) (ok_g (by simp; omega) (ok_g (by simp; omega) (ym ?_))))
  show (x++_).length≤70 * (j+1)
  simp; omega
 ·simp only [Nat.zero_add] at hx
  obtain ⟨i1,i2⟩:=y21 (b.length:Int) (by omega)
  unfold z6q
  rw [i1]
  simp only [Option.bind_some]
  refine qu (fun _ => ?_) (fun _=>hJ2 x (by omega))
  exact ok_g (by simp; omega) (ok_g (by simp; omega) (ok_g (by simp; omega) (hJ2 _ (by simp; omega))))
theorem y1e (old new:Bs):∀ (k:Nat) (s:Bs),(Lib.replaceK old new k s).length≤s.length+k * new.length
 | 0,s=>by simp [Lib.replaceK]
 | k+1,s=>by
  unfold Lib.replaceK
  split
  ·omega
  ·have:=y1e old new k (s.drop ((Lib.index s old).toNat+old.length))
   simp only [List.length_append,List.length_take,List.length_drop,Nat.succ_mul] at this ⊢
   by_cases h:(Lib.index s old).toNat≤s.length <;> omega
theorem y61 (s a b:Bs) (hs:s.length≤1000000) (ha:1≤a.length) (hb:b.length≤1000000):Ok (z2l s a b 1) fun r=>r.length≤s.length+b.length:=by
 unfold z2l
 refine ok_g ⟨hs,ha,hb⟩ (ym ?_)
 unfold Lib.replace
 split
 ·omega
 ·have h1:Lib.replaceNum s a 1≤1:=by
   unfold Lib.replaceNum
   split <;> omega
  have h2:=y1e a b (Lib.replaceNum s a 1) s
  have h3:Lib.replaceNum s a 1 * b.length≤1 * b.length:=Nat.mul_le_mul h1 (Nat.le_refl _)
  omega
theorem z95 {k:Int} {s:ya} (h:SB k s) (hk:k≤3000) (v:Bool):Ok (z0t s v) fun r=>SB (k+300) r.2:=by
 have hJ4:∀ (x:Bs) (c:List Int) (a:Int),x.length≤99000→SB (k+200) (ya.mk c a)→Ok (Qv x c a) fun r=>SB (k+300) r.2:=by
  intro x c a hx hs
  unfold Qv
  refine yn (z79 hs (by omega) _ ⟨by simp,by simp⟩) fun r50 h50 => ?_
  have hm:0≤r50.1∧r50.1≤2:=by
   have:=h50.1
   simp only [List.mem_cons,List.not_mem_nil,or_false] at this
   omega
  obtain ⟨m,hm2⟩:∃ m:Nat,r50.1=(m:Int):=⟨r50.1.toNat,by omega⟩
  rw [hm2,Int.toNat_natCast]
  refine ok_g (by omega) ?_
  refine z8c (fun j (q:Bs×List Int×Int)=>j≤m∧q.1.length≤99000+20 * j∧SB (k+201+3 * (j:Int)) (ya.mk q.2.1 q.2.2)) m 0 _ ⟨by omega,by simpa using hx,h50.2.mono (by omega)⟩ ?_ ?_
  ·rintro j ⟨y,c5,c6⟩ _ hj ⟨h0,h1,h3⟩
   simp only at h1 h3 ⊢
   unfold z6w
   refine yn (x1k h3 (by omega) y _ (by omega) (by simp)) fun r62 h62=>ym ⟨by omega,?_,h62.2.mono (by omega)⟩
   have:=h62.1
   simp at this
   show r62.1.length≤99000+20 * (j+1)
   omega
  ·rintro ⟨y,c5,c6⟩ ⟨h0,h1,h3⟩
   simp only at h1 h3 ⊢
   unfold z6x
   exact yn (kk h3 (by omega) 10 _ ⟨by simp,by simp⟩ (by decide)) fun r58 h58=>ok_g (by have:=h58.1; omega) (ym (h58.2.mono (by omega)))
 have hJ2:∀ (x:Bs) (c:List Int) (a:Int),x.length≤98000→SB (k+190) (ya.mk c a)→Ok (Qx x c a) fun r=>SB (k+300) r.2:=by
  intro x c a hx hs
  unfold Qx
  refine yn (z6z hs (by omega) 6 (by omega)) fun r38 h38=>qu (fun _ => ?_) (fun _=>hJ4 _ _ _ (by omega) (h38.mono (by omega)))
  refine yn (z7u h38 (by omega) _ ⟨by simp,by simp⟩) fun r41 h41=>yn (kk h41.2 (by omega) 10 _ ⟨by simp,by simp⟩ (by decide)) fun r43 h43 => ?_
  have ha:1≤r41.1.length:=(show ∀ y,y∈([[72,84,84,80,47,49,46,49],[13,10],[58,32],[104,111,115,116,58,32],[32,47]]:List Bs)→1≤y.length by decide) _ h41.1
  exact yn (y61 x r41.1 r43.1 (by omega) ha (by have:=h43.1; omega)) fun r45 h45=>hJ4 _ _ _ (by have:=h43.1; omega) (h43.2.mono (by omega))
 have hJ1:∀ (x:Bs) (c:List Int) (a:Int),x.length≤4000→SB (k+160) (ya.mk c a)→Ok (Qy x c a) fun r=>SB (k+300) r.2:=by
  intro x c a hx hs
  unfold Qy
  refine yn (z6z hs (by omega) 3 (by omega)) fun r15 h15=>qu (fun _ => ?_) (fun _=>hJ2 _ _ _ (by omega) (h15.mono (by omega)))
  have hcu:wo x [13,10,13,10]=some (Lib.cut x [13,10,13,10]):=by unfold wo; rw [if_pos (by omega)]
  have hcl:(Lib.cut x [13,10,13,10]).1.length≤x.length∧(Lib.cut x [13,10,13,10]).2.1.length≤x.length:=by
   unfold Lib.cut
   split
   ·exact ⟨by simp; omega,by simp⟩
   ·exact ⟨Nat.le_refl _,by simp⟩
  rw [hcu]
  simp only [Option.bind_some]
  generalize Lib.cut x [13,10,13,10]=r18 at *
  have hix:z2n r18.1 [13,10,99,111,110,116,101,110,116,45,108,101,110,103,116,104]=some (Lib.index r18.1 [13,10,99,111,110,116,101,110,116,45,108,101,110,103,116,104]):=by unfold z2n; rw [if_pos (by omega)]
  rw [hix]
  simp only [Option.bind_some]
  have hJ3:∀ y:Bs,y.length≤4000→Ok (Qw r15 r18 y) fun r=>SB (k+300) r.2:=by
   intro y hy
   have hch:=x1h r18.2.1 3 (by omega) (by omega)
   have hch':z0s r18.2.1 3=some (chB 3 r18.2.1++[48,13,10,13,10]):=hch
   have hlen:=x1l 3 r18.2.1.length r18.2.1 (Nat.le_refl _) (by omega)
   unfold Qw
   rw [hch']
   simp only [Option.bind_some]
   have hcl2:(chB 3 r18.2.1++[48,13,10,13,10]).length≤80010:=by simp; omega
   generalize chB 3 r18.2.1++[48,13,10,13,10]=z at hcl2 ⊢
   refine ok_g (by simp; omega) (ok_g (by simp; omega) (ok_g (by simp; omega) (ok_g (by simp; omega) ?_)))
   refine yn (kk h15 (by omega) 90000 _ ⟨by simp,by simp⟩ (by
    intro y hy
    simp only [List.mem_cons,List.not_mem_nil,or_false] at hy
    rcases hy with rfl | rfl | rfl | rfl | rfl | rfl | rfl | rfl | rfl | rfl | rfl <;> simp <;> omega)) fun r32 h32 => ?_
   refine ok_g (by have:=h32.1; simp; omega) (hJ2 _ _ _ (by have:=h32.1; simp; omega) (h32.2.mono (by omega)))
  refine qu (fun h0 => ?_) (fun _=>hJ3 _ (by omega))
  have h0':0≤Lib.index r18.1 [13,10,99,111,110,116,101,110,116,45,108,101,110,103,116,104]:=by simpa using h0
  have hroom:=Lib.index_room r18.1 [13,10,99,111,110,116,101,110,116,45,108,101,110,103,116,104] h0'
  simp only [List.length_cons,List.length_nil] at hroom
  exact yn (uq r18.1 0 _ ⟨by omega,h0',by omega⟩) fun l23 h23=>hJ3 _ (by omega)
 unfold z0t
 have hRq:Ok (z3r s) fun r=>(Ok (z0o r.1) fun t=>t.length≤4000)∧SB (k+50) r.2:=by
  unfold z3r z1g
  refine yn (z79 h (by omega) _ ⟨by simp,by simp⟩) fun r2 h2=>yn (kk h2.2 (by omega) 100 _ ⟨by simp,by simp⟩ (by decide)) fun r4 h4 => ?_
  unfold z6b
  refine yn (yn (kk h4.2 (by omega) 100 _ ⟨by simp,by simp⟩ (by decide)) fun r5 h5=>ym (Q:=fun r:Bs×ya=>r.1.length≤100∧SB (k+3) r.2) ⟨h5.1,h5.2.mono (by omega)⟩) fun r6 h6=>yn (kk h6.2 (by omega) 100 _ ⟨by simp,by simp⟩ (by decide)) fun r8 h8=>yn (kk h8.2 (by omega) 100 _ ⟨by simp,by simp⟩ (by decide)) fun r10 h10=>yn (kk h10.2 (by omega) 100 _ ⟨by simp,by simp⟩ (by decide)) fun r12 h12=>yn (y1b h12.2 (by omega) 4 (by omega)) fun r14 h14=>yn (z6z h14.2 (by omega) 4 (by omega)) fun r16 h16 => ?_
  have hB:∀ b:Bs,b.length≤1000→Ok (z0o (yd.mk r2.1 r4.1 r6.1 r8.1 r10.1 r12.1 r14.1 b)) fun t=>t.length≤4000:=fun b hb=>by
   have a1:=h4.1
   have a2:=h6.1
   have a3:=h8.1
   have a4:=h10.1
   have hJ:∀ t:Bs,t.length≤300→Ok (Qu (yd.mk r2.1 r4.1 r6.1 r8.1 r10.1 r12.1 r14.1 b) t) fun t=>t.length≤4000:=fun t ht=>by
    unfold Qu
    refine ok_g (by simp; omega) (ok_g (by simp; omega) (ok_g (by simp; omega) (ok_g (by simp; omega) (ok_g (by simp; omega) (ok_g (by simp; omega) (ok_g (by simp; omega) ?_))))))
    exact yn (y0m r14.1 b true h14.1.1 h14.1.2 hb) fun r13 h13=>ok_g (by simp; omega) (ym (by simp; omega))
   unfold z0o
   exact qu (fun _=>ok_g (by simp; omega) (ok_g (by simp; omega) (hJ _ (by simp; omega)))) (fun _=>hJ _ (by simp only; omega))
  refine qu (fun _ => ?_) (fun _=>ym ⟨hB _ (by simp),h16.mono (by omega)⟩)
  refine yn (y63 _ _ ⟨by omega,by omega,by simp⟩) fun r19 h19 => ?_
  have hl:r19.length≤100:=by rw [h19]; decide +kernel
  exact yn (kk h16 (by omega) 100 _ ⟨by simp,by simp⟩ (by simp [hl])) fun r21 h21=>ym ⟨hB _ (by have:=h21.1; omega),h21.2.mono (by omega)⟩
 refine yn hRq fun r3 h3 => ?_
 have hRs:Ok (z3q r3.2) fun r=>(Ok (z3m r.1) fun t=>t.length≤4000)∧SB (k+100) r.2:=by
  unfold z3q
  refine yn (z79 h3.2 (by omega) _ ⟨by simp,by simp⟩) fun r2 h2=>yn (y1b h2.2 (by omega) 3 (by omega)) fun r4 h4=>yn (kk h4.2 (by omega) 100 _ ⟨by simp,by simp⟩ (by decide)) fun r6 h6=>ym ⟨?_,h6.2.mono (by omega)⟩
  have hst:0≤r2.1∧r2.1≤1000:=by
   have:=h2.1
   simp only [List.mem_cons,List.not_mem_nil,or_false] at this
   omega
  have hJ:∀ x:Bs,x.length≤10→Ok (Qs (yj.mk r2.1 r4.1 r6.1) x) fun t=>t.length≤4000:=fun x hx=>by
   obtain ⟨i1,i2⟩:=y21 r2.1 (by omega)
   unfold Qs
   rw [i1]
   simp only [Option.bind_some]
   refine ok_g (by simp; omega) (ok_g (by simp; omega) (ok_g (by simp; omega) (ok_g (by simp; omega) ?_)))
   exact yn (y0m r4.1 r6.1 false h4.1.1 h4.1.2 (by have:=h6.1; omega)) fun r13 h13=>ok_g (by simp; omega) (ym (by simp; omega))
  unfold z3m
  exact qu (fun _=>hJ _ (by simp)) (fun _=>hJ _ (by simp))
 refine yn hRs fun r5 h5=>qu (fun _=>yn h3.1 fun r8 h8=>hJ1 _ _ _ h8 (h5.2.mono (by omega))) (fun _=>yn h5.1 fun r10 h10=>hJ1 _ _ _ h10 (h5.2.mono (by omega)))
theorem eqHS (l:List zk) (h:l.length≤1000000000):z2q l l=some true:=
 x0n (fun x7 x10:zk => !((x7.Name == x10.Name) && ((x7.Value == x10.Value) && true))) (fun x=>by simp) l h
theorem y7s (L:List Int):z6c L=some true:=by
 refine y1s ?_
 unfold z6c
 refine yn (z95 (k:=0) ⟨by simp,by simp⟩ (by omega) true) fun r2 h2=>yn (z95 h2 (by omega) false) fun r4 h4 => ?_
 have hJ:∀ t:Bs,Ok (Qz r4 t) (· = true):=fun t=>by
  obtain ⟨q,q1,q2,q3⟩:=y6z t
  obtain ⟨p,p1,p2,p3⟩:=y6x r4.1
  unfold Qz kx
  rw [q1,q2,p1,p2]
  simp only [Option.bind_some]
  have e1:z3j q.1 q.1=some true:=by
   unfold z3j kg
   simp [eqHS _ q3]
  have e2:z3i p.1 p.1=some true:=by
   unfold z3i Qr
   simp [eqHS _ p3]
  rw [e1,e2]
  simp only [Option.bind_some,decide_true,if_true]
  rw [y54]
  exact ym rfl
 exact yn (z6z h4 (by omega) 60 (by omega)) fun r6 h6=>qu (fun _=>ok_g (by decide) (hJ _)) (fun _=>hJ _)
end Go.Proofs.YtbcmpepmafpibabGreatDoor
