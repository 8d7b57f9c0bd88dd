/- Plain: qualities, parameters, items and lists: the program and the reference give the same. -/
import Derived.Test.YtpjjkhcojjcdpaaGreatDoorCkZx
namespace Go.Proofs.YtpjjkhcojjcdpaaGreatDoor
set_option linter.unusedVariables false
set_option maxRecDepth 20000
def pS (s t:Bs):Int:=((s.length - t.length:Nat):Int)
theorem qo {s t:Bs} (h:t <:+ s):t.length≤s.length:=h.length_le
theorem ut {s r:Bs} {c:UInt8} (h:c::r <:+ s):r <:+ s:=(List.suffix_cons c r).trans h
theorem Qk {s r:Bs} {c:UInt8} (h:c::r <:+ s):at? s (pS s (c::r))=some c:=by
 obtain ⟨p,rfl⟩:=h
 have e:pS (p++c::r) (c::r)=(p.length:Int):=by unfold pS; simp
 rw [e,y9a]; simp
theorem je {s t:Bs} (h:t <:+ s):decide (pS s t < (s.length:Int))=decide (t≠[]):=by
 have:=qo h
 refine decide_eq_decide.2 ?_
 unfold pS
 cases t with
 | nil=>simp
 | cons c r=>simp only [List.length_cons] at this ⊢; simp; omega
theorem Qj {s r:Bs} {c:UInt8} (h:c::r <:+ s) (hs:s.length≤1000000):wr (pS s (c::r)+1)=pS s r:=by
 have:=qo h
 unfold pS
 simp only [List.length_cons] at this ⊢
 rw [wo (by omega)]; omega
theorem y2s {s u v:Bs} (h:u++v <:+ s):sub? s (pS s (u++v)) (pS s v)=some u:=by
 obtain ⟨p,rfl⟩:=h
 have e1:pS (p++(u++v)) (u++v)=(p.length:Int):=by unfold pS; simp
 have e2:pS (p++(u++v)) v=((p.length+u.length:Nat):Int):=by unfold pS; simp only [List.length_append]; omega
 rw [e1,e2]
 unfold sub?
 rw [if_pos ⟨by omega,by omega,by simp only [List.length_append]; omega⟩]
 simp only [Int.toNat_natCast]
 rw [show p.length+u.length - p.length=u.length by omega]
 simp
theorem u8c (c d:UInt8) (k:Int) (hk:k=(d.toNat:Int)):decide ((c.toNat:Int)=k)=decide (c=d):=by
 subst hk
 by_cases h:c=d
 ·simp [h]
 ·have:¬ (c.toNat:Int)=(d.toNat:Int):=fun e=>h (UInt8.toNat_inj.1 (by omega))
  rw [decide_eq_false this,decide_eq_false h]
theorem u8n (c d:UInt8) (k:Int) (hk:k=(d.toNat:Int)):decide ((c.toNat:Int)≠k)=decide (c≠d):=by
 have:=u8c c d k hk
 simp only [decide_not,ne_eq,this]
theorem z5e (c x:UInt8) (r:Bs):trL c (x::r)=if x=c then trL c r else x::r:=by
 unfold trL
 rw [List.dropWhile_cons]
 by_cases h:x=c <;> simp [h]
theorem wh (c:UInt8) (t:Bs):trL c t <:+ t:=List.dropWhile_suffix _
theorem z5d (c:UInt8) (t:Bs) (h:t.head?≠some c):trL c t=t:=by
 cases t with
 | nil=>rfl
 | cons x r=>rw [z5e,if_neg (fun e=>h (by rw [e]; rfl))]
theorem y2h (c:UInt8):∀ t:Bs,(trL c t).head?≠some c
 | []=>by simp [trL]
 | x::r=>by
  rw [z5e]
  split
  ·exact y2h c r
  ·rename_i h; simpa using h
theorem z82 {s:Bs} (hs:s.length≤1000000) (i:Int) (b:Bool):∀ t:Bs,t <:+ s→iter (fun (q:Int)=>kb (zm.mk s i b) q) (pS s t)=some (zm.mk s (pS s (trL 32 t)) b)
 | [],h=>by
  refine qk (body:=fun (q:Int)=>kb (zm.mk s i b) q) ?_
  show kb _ _=_
  unfold kb Zj
  simp only [je h]
  simp [trL]
 | c::r,h=>by
  have hst:kb (zm.mk s i b) (pS s (c::r))=if c=32 then some (.inl (pS s r)) else some (.inr (zm.mk s (pS s (c::r)) b)):=by
   unfold kb Zj
   simp only [je h,Qk h,Option.bind_some,u8c c 32 32 rfl,Qj h hs]
   by_cases hc:c=32 <;> simp [hc]
  rw [z5e]
  by_cases hc:c=32
  ·rw [if_pos hc] at hst ⊢
   exact (qp (body:=fun (q:Int)=>kb (zm.mk s i b) q) hst).trans (z82 hs i b r (ut h))
  ·rw [if_neg hc] at hst ⊢
   exact qk (body:=fun (q:Int)=>kb (zm.mk s i b) q) hst
theorem Ze {s t:Bs} (hs:s.length≤1000000) (b:Bool) (h:t <:+ s):xd (zm.mk s (pS s t) b)=some (zm.mk s (pS s (trL 32 t)) b):=z82 hs _ b t h
theorem xr (t:Bs) (h:t.length≤1000000):xg (yb.mk t)=some (yb.mk (trL 32 t)):=by
 unfold xg z3p Qf
 by_cases h0:t=[]
 ·subst h0; rfl
 ·rw [if_neg (by simp [h0]),if_pos (by simp),List.getElem?_cons_zero]
  simp only [Option.bind_some]
  rw [if_pos (by decide)]
  have:=z5c 32 t (by omega)
  rw [show (((32:UInt8).toNat:Int))=32 from rfl] at this ⊢
  simp only [this,Option.bind_some]
def ifh (c:UInt8) (t:Bs):Bs:=if t.head?=some c then t.tail else t
theorem y0q (c:UInt8) (t:Bs):ifh c t <:+ t:=by
 unfold ifh
 split
 ·exact List.tail_suffix t
 ·exact List.suffix_rfl
theorem kf {s t:Bs} (hs:s.length≤1000000) (b:Bool) (h:t <:+ s) (c:UInt8) (k:Int) (hk:k=(c.toNat:Int)):kr (zm.mk s (pS s t) b) k=some (decide (t.head?=some c),zm.mk s (pS s (ifh c t)) b):=by
 unfold kr Qn ifh
 simp only [je h]
 cases t with
 | nil=>simp
 | cons x r =>
  simp only [Qk h,Option.bind_some,u8c x c k hk,Qj h hs]
  by_cases hc:x=c <;> simp [hc]
def tk (t:Bs):Bs:=t.takeWhile fun c=>tokL.contains c
def td (t:Bs):Bs:=t.dropWhile fun c=>tokL.contains c
theorem z0l (t:Bs):tk t++td t=t:=List.takeWhile_append_dropWhile
theorem z5h (c:UInt8) (r:Bs):td (c::r)=if tokL.contains c=true then td r else c::r:=by unfold td; rw [List.dropWhile_cons]
theorem Zb (t:Bs):td t <:+ t:=List.dropWhile_suffix _
theorem z0m (t:Bs):(tk t).length≤t.length:=(List.takeWhile_prefix _).length_le
theorem uq (t:Bs):(tk t).all (fun c=>tokL.contains c)=true:=by
 unfold tk
 exact List.all_takeWhile
theorem z5g (t:Bs) {d:UInt8} {r:Bs} (h:td t=d::r):tokL.contains d=false:=by
 induction t with
 | nil=>cases h
 | cons x l ih =>
  rw [z5h] at h
  by_cases hx:tokL.contains x=true
  ·rw [if_pos hx] at h; exact ih h
  ·rw [if_neg hx] at h; cases h; simpa using hx
theorem tokI {s:Bs} (hs:s.length≤1000000) (i:Int) (b:Bool) (R:Bs×zm):∀ t:Bs,t <:+ s→uw (zm.mk s i b) (pS s (td t))=some R→iter (fun (q:Int)=>ka (zm.mk s i b) q) (pS s t)=some R
 | [],h,hR=>by
  refine qk (body:=fun (q:Int)=>ka (zm.mk s i b) q) ?_
  show ka _ _=_
  have hR':uw (zm.mk s i b) (pS s [])=some R:=hR
  unfold ka Zi
  simp only [je h]
  simp [hR']
 | c::r,h,hR=>by
  have hst:ka (zm.mk s i b) (pS s (c::r))=if tokL.contains c=true then some (.inl (pS s r)) else Option.map .inr (uw (zm.mk s i b) (pS s (c::r))):=by
   unfold ka Zi
   simp only [je h,Qk h,Option.bind_some,z8j,Qj h hs]
   cases tokL.contains c <;> simp
  rw [z5h] at hR
  by_cases hc:tokL.contains c=true
  ·rw [if_pos hc] at hR hst
   exact (qp (body:=fun (q:Int)=>ka (zm.mk s i b) q) hst).trans (tokI hs i b R r (ut h) hR)
  ·rw [if_neg hc] at hR hst
   rw [hR] at hst
   exact qk (body:=fun (q:Int)=>ka (zm.mk s i b) q) hst
theorem Yd {s t:Bs} (hs:s.length≤1000000) (b:Bool) (h:t <:+ s):Zy (zm.mk s (pS s t) b)=some (tk t,zm.mk s (pS s (td t)) (b || !tokB (tk t))):=by
 have hl:=qo h
 have h2:=z0m t
 refine tokI hs _ b _ t h ?_
 have hsub:sub? s (pS s t) (pS s (td t))=some (tk t):=by
  have:=y2s (s:=s) (u:=tk t) (v:=td t) (by rw [z0l]; exact h)
  rw [z0l] at this; exact this
 unfold uw Ql
 simp only [hsub,Option.bind_some]
 cases b
 ·simp [z1y (tk t) (by omega)]
 ·simp
def quoD:Bs→Bs→Option (Bs×Bs)
 | x,c::d::r=>if c=34 then some (x,d::r) else if c=92 then (if d=34∨d=92 then quoD (x++[d]) r else none) else quoD (x++[c]) (d::r)
 | x,[c]=>if c=34 then some (x,[]) else none
 | _,[]=>none
theorem z00:∀ (n:Nat) (x t:Bs),t.length≤n→∀ p,quoD x t=some p→p.2 <:+ t∧p.1.length≤x.length+t.length
 | _,x,[],_,p,h=>by cases h
 | _,x,[c],_,p,h=>by
  unfold quoD at h
  split at h
  ·cases h; exact ⟨List.suffix_cons c [],by simp⟩
  ·cases h
 | 0,x,c::d::r,hn,p,h=>by simp at hn
 | n+1,x,c::d::r,hn,p,h=>by
  simp only [List.length_cons] at hn
  unfold quoD at h
  split at h
  ·cases h; exact ⟨List.suffix_cons c _,by simp⟩
  ·split at h
   ·split at h
    ·have:=z00 n (x++[d]) r (by omega) p h
     refine ⟨this.1.trans ((List.suffix_cons d r).trans (List.suffix_cons c _)),?_⟩
     have h2:=this.2
     simp only [List.length_append,List.length_cons,List.length_nil] at h2 ⊢
     omega
    ·cases h
   ·have:=z00 n (x++[c]) (d::r) (by simp; omega) p h
    refine ⟨this.1.trans (List.suffix_cons c _),?_⟩
    have h2:=this.2
    simp only [List.length_append,List.length_cons,List.length_nil] at h2 ⊢
    omega
theorem z3e (x:Bs) (c:UInt8):yl x++[(c.toNat:Int)]=yl (x++[c]):=by rw [y46]; rfl
theorem quoI {s:Bs} (hs:s.length≤1000000) (i:Int) (b:Bool):∀ (n:Nat) (t x:Bs),t.length≤n→t <:+ s→x.length+t.length≤1000000→∃ t',t' <:+ t∧iter (fun (q:Int×(List Int))=>wt (zm.mk s i b) q.1 q.2) (pS s t,yl x)=some (match quoD x t with | some p=>(p.1,zm.mk s (pS s p.2) b) | none=>([],zm.mk s (pS s t') true)):=by
 intro n
 induction n with
 | zero =>
  intro t x hn h hx
  obtain rfl:t=[]:=by cases t with | nil=>rfl | cons c r=>simp at hn
  refine ⟨[],List.suffix_rfl,qk (body:=fun (q:Int×(List Int))=>wt (zm.mk s i b) q.1 q.2) ?_⟩
  show wt _ _ _=_
  unfold wt uy
  simp only [je h]
  simp [quoD]
 | succ n ih =>
  intro t x hn h hx
  have hnl:=z6a x
  match t,hn,h,hx with
  | [],hn,h,hx=>exact ih [] x (by simp) h hx
  | [c],hn,h,hx =>
   have h0:([]:Bs) <:+ s:=ut h
   have hlen:pS s []=(s.length:Int):=by simp [pS]
   have hst:wt (zm.mk s i b) (pS s [c]) (yl x)=if c=34 then some (.inr (x,zm.mk s (pS s []) b)) else if c=92 then some (.inr ([],zm.mk s (pS s []) true)) else some (.inl (pS s [],yl (x++[c]))):=by
    unfold wt ux Zk uy
    simp only [je h,Qk h,Option.bind_some,u8c c 34 34 rfl,u8c c 92 92 rfl,Qj h hs,z23]
    by_cases h1:c=34
    ·simp [h1]
    ·by_cases h2:c=92
     ·simp [h2,hlen]
     ·simp only [List.length_cons,List.length_nil] at hx
      rw [if_pos (by omega:(yl x).length+1≤1000000000),z3e]
      simp [h1,h2]
   unfold quoD
   by_cases h1:c=34
   ·rw [if_pos h1] at hst ⊢
    exact ⟨[],List.suffix_cons c [],qk (body:=fun (q:Int×(List Int))=>wt (zm.mk s i b) q.1 q.2) hst⟩
   ·rw [if_neg h1] at hst ⊢
    by_cases h2:c=92
    ·rw [if_pos h2] at hst
     exact ⟨[],List.suffix_cons c [],qk (body:=fun (q:Int×(List Int))=>wt (zm.mk s i b) q.1 q.2) hst⟩
    ·rw [if_neg h2] at hst
     obtain ⟨t',h3,h4⟩:=ih [] (x++[c]) (by simp) h0 (by simp at hx ⊢; omega)
     exact ⟨t',h3.trans (List.suffix_cons c []),(qp (body:=fun (q:Int×(List Int))=>wt (zm.mk s i b) q.1 q.2) hst).trans h4⟩
  | c::d::r,hn,h,hx =>
   simp only [List.length_cons] at hn hx
   have h0:d::r <:+ s:=ut h
   have h00:r <:+ s:=ut h0
   have hne:¬ pS s (d::r)=(s.length:Int):=by
    have:=je h0
    simp at this
    omega
   have hg:(yl x).length+1≤1000000000:=by omega
   have hst:wt (zm.mk s i b) (pS s (c::d::r)) (yl x)=if c=34 then some (.inr (x,zm.mk s (pS s (d::r)) b)) else if c=92 then (if d=34∨d=92 then some (.inl (pS s r,yl (x++[d]))) else some (.inr ([],zm.mk s (pS s (d::r)) true))) else some (.inl (pS s (d::r),yl (x++[c]))):=by
    unfold wt ux Zk uy
    simp only [je h,Qk h,Option.bind_some,u8c c 34 34 rfl,u8c c 92 92 rfl,Qj h hs,z23,Qk h0,Qj h0 hs,u8n d 34 34 rfl,u8n d 92 92 rfl,z3e]
    simp only [hg,if_true]
    by_cases h1:c=34
    ·simp [h1]
    ·by_cases h2:c=92
     ·by_cases h3:d=34
      ·subst h3; simp [h2,hne]
      ·by_cases h4:d=92
       ·subst h4; simp [h2,hne]
       ·simp [h2,hne,h3,h4]
     ·simp [h1,h2]
   unfold quoD
   by_cases h1:c=34
   ·rw [if_pos h1] at hst ⊢
    exact ⟨[],List.nil_suffix,qk (body:=fun (q:Int×(List Int))=>wt (zm.mk s i b) q.1 q.2) hst⟩
   ·rw [if_neg h1] at hst ⊢
    by_cases h2:c=92
    ·rw [if_pos h2] at hst ⊢
     by_cases h3:d=34∨d=92
     ·rw [if_pos h3] at hst ⊢
      obtain ⟨t',h4,h5⟩:=ih r (x++[d]) (by omega) h00 (by simp; omega)
      exact ⟨t',h4.trans ((List.suffix_cons d r).trans (List.suffix_cons c _)),(qp (body:=fun (q:Int×(List Int))=>wt (zm.mk s i b) q.1 q.2) hst).trans h5⟩
     ·rw [if_neg h3] at hst ⊢
      exact ⟨d::r,List.suffix_cons c _,qk (body:=fun (q:Int×(List Int))=>wt (zm.mk s i b) q.1 q.2) hst⟩
    ·rw [if_neg h2] at hst ⊢
     obtain ⟨t',h4,h5⟩:=ih (d::r) (x++[c]) (by simp; omega) h0 (by simp; omega)
     exact ⟨t',h4.trans (List.suffix_cons c _),(qp (body:=fun (q:Int×(List Int))=>wt (zm.mk s i b) q.1 q.2) hst).trans h5⟩
theorem z6r {s t:Bs} (hs:s.length≤1000000) (b:Bool) (h:t <:+ s):∃ t',t' <:+ t∧z3u (zm.mk s (pS s t) b)=some (match quoD [] t with | some p=>(p.1,zm.mk s (pS s p.2) b) | none=>([],zm.mk s (pS s t') true)):=
 quoI hs (pS s t) b t.length t [] (Nat.le_refl _) h (by have:=qo h; simp; omega)
theorem z0o (c:UInt8) (r:Bs):sub? (c::r) 1 ((c::r).length:Int)=some r:=by
 unfold sub?
 rw [if_pos (by simp; omega)]
 simp
theorem quoR:∀ (n:Nat) (t x:Bs),t.length≤n→x.length+t.length≤1000000→∃ t',iter (fun (q:Bs×(List Int))=>ve q.1 q.2) (t,yl x)=some (match quoD x t with | some p=>(p.1,true,yb.mk p.2) | none=>([],false,yb.mk t')):=by
 intro n
 induction n with
 | zero =>
  intro t x hn hx
  obtain rfl:t=[]:=by cases t with | nil=>rfl | cons c r=>simp at hn
  exact ⟨[],qk (body:=fun (q:Bs×(List Int))=>ve q.1 q.2) rfl⟩
 | succ n ih =>
  intro t x hn hx
  have hnl:=z6a x
  match t,hn,hx with
  | [],hn,hx=>exact ih [] x (by simp) hx
  | [c],hn,hx =>
   simp only [List.length_cons,List.length_nil] at hx
   have hst:ve [c] (yl x)=if c=34 then some (.inr (x,true,yb.mk [])) else if c=92 then some (.inr ([],false,yb.mk [])) else some (.inl ([],yl (x++[c]))):=by
    unfold ve xn Yl
    simp only [List.getElem?_cons_zero,z0o,Option.bind_some,u8c c 34 34 rfl,u8c c 92 92 rfl,z23]
    rw [if_pos (by omega:(yl x).length+1≤1000000000),z3e]
    by_cases h1:c=34
    ·simp [h1]
    ·by_cases h2:c=92 <;> simp [h1,h2]
   unfold quoD
   by_cases h1:c=34
   ·rw [if_pos h1] at hst ⊢
    exact ⟨[],qk (body:=fun (q:Bs×(List Int))=>ve q.1 q.2) hst⟩
   ·rw [if_neg h1] at hst ⊢
    by_cases h2:c=92
    ·rw [if_pos h2] at hst
     exact ⟨[],qk (body:=fun (q:Bs×(List Int))=>ve q.1 q.2) hst⟩
    ·rw [if_neg h2] at hst
     obtain ⟨t',h4⟩:=ih [] (x++[c]) (by simp) (by simp; omega)
     exact ⟨t',(qp (body:=fun (q:Bs×(List Int))=>ve q.1 q.2) hst).trans h4⟩
  | c::d::r,hn,hx =>
   simp only [List.length_cons] at hn hx
   have hg:(yl x).length+1≤1000000000:=by omega
   have hst:ve (c::d::r) (yl x)=if c=34 then some (.inr (x,true,yb.mk (d::r))) else if c=92 then (if d=34∨d=92 then some (.inl (r,yl (x++[d]))) else some (.inr ([],false,yb.mk (d::r)))) else some (.inl (d::r,yl (x++[c]))):=by
    unfold ve xn Yl
    simp only [List.getElem?_cons_zero,z0o,Option.bind_some,u8c c 34 34 rfl,u8c c 92 92 rfl,z23,u8n d 34 34 rfl,u8n d 92 92 rfl,z3e]
    simp only [hg,if_true]
    by_cases h1:c=34
    ·simp [h1]
    ·by_cases h2:c=92
     ·by_cases h3:d=34
      ·simp [h2,h3]
      ·by_cases h4:d=92 <;> simp [h2,h3,h4]
     ·simp [h1,h2]
   unfold quoD
   by_cases h1:c=34
   ·rw [if_pos h1] at hst ⊢
    exact ⟨[],qk (body:=fun (q:Bs×(List Int))=>ve q.1 q.2) hst⟩
   ·rw [if_neg h1] at hst ⊢
    by_cases h2:c=92
    ·rw [if_pos h2] at hst ⊢
     by_cases h3:d=34∨d=92
     ·rw [if_pos h3] at hst ⊢
      obtain ⟨t',h5⟩:=ih r (x++[d]) (by omega) (by simp; omega)
      exact ⟨t',(qp (body:=fun (q:Bs×(List Int))=>ve q.1 q.2) hst).trans h5⟩
     ·rw [if_neg h3] at hst ⊢
      exact ⟨d::r,qk (body:=fun (q:Bs×(List Int))=>ve q.1 q.2) hst⟩
    ·rw [if_neg h2] at hst ⊢
     obtain ⟨t',h5⟩:=ih (d::r) (x++[c]) (by simp; omega) (by simp; omega)
     exact ⟨t',(qp (body:=fun (q:Bs×(List Int))=>ve q.1 q.2) hst).trans h5⟩
theorem z9b (t:Bs) (h:t.length≤1000000):∃ t',z34 (yb.mk t)=some (match quoD [] t with | some p=>(p.1,true,yb.mk p.2) | none=>([],false,yb.mk t')):=
 quoR t.length t [] (Nat.le_refl _) (by simpa using h)
def csI:Bs:=[44,59,32]
def csN:Bs:=[61,44,59,32]
def up (cs t:Bs):Bs:=t.takeWhile fun c => !cs.contains c
def dn (cs t:Bs):Bs:=t.dropWhile fun c => !cs.contains c
theorem z8b (cs t:Bs):up cs t++dn cs t=t:=List.takeWhile_append_dropWhile
theorem Yw (cs t:Bs):dn cs t <:+ t:=List.dropWhile_suffix _
theorem xu (cs t:Bs):(up cs t).length≤t.length:=(List.takeWhile_prefix _).length_le
theorem y11 {cs t:Bs}:∀ c,c∈up cs t→c∈t:=fun c hc=>(List.takeWhile_prefix _).subset hc
theorem y0t (cs:Bs):∀ t:Bs,Lib.indexAny t cs=if dn cs t=[] then -1 else ((up cs t).length:Int)
 | []=>rfl
 | c::r=>by
  have ih:=y0t cs r
  unfold Lib.indexAny up dn
  rw [List.takeWhile_cons,List.dropWhile_cons]
  cases hc:cs.contains c
  ·simp only [Bool.false_eq_true,if_false,Bool.not_false,if_true]
   rw [ih]
   unfold up dn
   by_cases h0:List.dropWhile (fun c => !cs.contains c) r=[]
   ·rw [if_pos h0,if_pos h0]; rfl
   ·rw [if_neg h0,if_neg h0,if_neg (by simp)]
    simp only [List.length_cons]; omega
  ·simp
theorem z0i (t cs:Bs) (ht:ascB t=true) (hl:t.length≤1000000) (hc:ascB cs=true) (hcl:cs.length≤1000):js (yb.mk t) cs=some (up cs t,yb.mk (dn cs t)):=by
 unfold js Wv z3q
 rw [if_pos ⟨⟨by show t.length≤_; omega,by omega⟩,ht,hc⟩]
 simp only [Option.bind_some]
 rw [y0t]
 have h1:=z8b cs t
 have h2:=xu cs t
 by_cases h0:dn cs t=[]
 ·rw [if_pos h0,if_pos (by simp)]
  rw [h0,List.append_nil] at h1
  have e1:sub? t 0 (t.length:Int)=some t:=by rw [z5j t t.length (Nat.le_refl _)]; simp
  have e2:sub? t (t.length:Int) (t.length:Int)=some []:=by
   unfold sub?
   rw [if_pos (by omega)]; simp
  rw [e1,e2,h0,h1]; rfl
 ·rw [if_neg h0,if_neg (by simp)]
  have e1:sub? t 0 ((up cs t).length:Int)=some (up cs t):=by
   rw [z5j t _ h2]
   congr 1
   conv=>lhs; arg 2; rw [← h1]
   simp
  have e2:sub? t ((up cs t).length:Int) (t.length:Int)=some (dn cs t):=by
   have:t=up cs t++dn cs t:=h1.symm
   unfold sub?
   rw [if_pos (by omega)]
   simp only [Int.toNat_natCast]
   rw [List.take_of_length_le (by simp)]
   conv=>lhs; arg 1; arg 2; rw [this]
   simp
  rw [e1,e2]; rfl
theorem z2y (cs t:Bs) (hcs:∀ c,cs.contains c=true→tokL.contains c=false):(tokB (up cs t)=true∧tk t=up cs t∧td t=dn cs t)∨(tokB (up cs t)=false∧(tokB (tk t)=false∨∃ d r,td t=d::r∧cs.contains d=false)):=by
 have hno:∀ c,tokL.contains c=true→cs.contains c=false:=fun c h=>by
  cases h2:cs.contains c
  ·rfl
  ·rw [hcs c h2] at h; cases h
 have key:∀ t:Bs,(td t=[]∨∃ d r,td t=d::r∧cs.contains d=true)→up cs t=tk t∧dn cs t=td t:=by
  intro t
  induction t with
  | nil=>intro _; exact ⟨rfl,rfl⟩
  | cons c r ih =>
   intro h
   unfold up dn tk td at *
   rw [List.takeWhile_cons,List.dropWhile_cons,List.takeWhile_cons,List.dropWhile_cons]
   rw [List.dropWhile_cons] at h
   cases hc:tokL.contains c
   ·rw [hc] at h
    simp only [Bool.false_eq_true,if_false] at h
    rcases h with h | ⟨d,r',h,h2⟩
    ·cases h
    ·cases h
     have h2':cs.contains c=true:=h2
     rw [h2']
     exact ⟨rfl,rfl⟩
   ·rw [hc] at h
    simp only [if_true] at h
    have:=ih h
    rw [hno c hc]
    simp only [Bool.not_false,if_true]
    exact ⟨by rw [this.1],this.2⟩
 cases hd:td t with
 | nil =>
  have:=key t (.inl hd)
  cases ht:tokB (up cs t)
  ·right; refine ⟨rfl,.inl ?_⟩; rw [← this.1]; exact ht
  ·left; exact ⟨rfl,this.1.symm,by rw [← hd]; exact this.2.symm⟩
 | cons d r =>
  cases hc:cs.contains d
  ·cases ht:tokB (up cs t)
   ·right; exact ⟨rfl,.inr ⟨d,r,rfl,hc⟩⟩
   ·exfalso
    have hall:(up cs t).all (fun c=>tokL.contains c)=true:=by
     unfold tokB at ht
     simp only [Bool.and_eq_true] at ht
     exact ht.1
    have hd2:=z5g t hd
    have e:∀ t:Bs,td t=d::r→d∈up cs t:=by
     intro t
     induction t with
     | nil=>intro h; cases h
     | cons c l ih =>
      intro h
      rw [z5h] at h
      unfold up
      rw [List.takeWhile_cons]
      by_cases hx:tokL.contains c=true
      ·rw [if_pos hx] at h
       rw [hno c hx]
       exact List.mem_cons_of_mem _ (ih h)
      ·rw [if_neg hx] at h
       cases h
       rw [hc]; simp
    have:=List.all_eq_true.1 hall d (e t hd)
    rw [hd2] at this; cases this
  ·have:=key t (.inr ⟨d,r,hd,hc⟩)
   cases ht:tokB (up cs t)
   ·right; refine ⟨rfl,.inl ?_⟩; rw [← this.1]; exact ht
   ·left; exact ⟨rfl,this.1.symm,by rw [← hd]; exact this.2.symm⟩
theorem z7g:∀ c,csI.contains c=true→tokL.contains c=false:=fun c h=>by
 have:=xv (fun c => !csI.contains c || !tokL.contains c) (by decide +kernel) c
 rw [h] at this
 simpa using this
theorem y1b:∀ c,csN.contains c=true→tokL.contains c=false:=fun c h=>by
 have:=xv (fun c => !csN.contains c || !tokL.contains c) (by decide +kernel) c
 rw [h] at this
 simpa using this
theorem z40 (p:UInt8→Bool):∀ l:Bs,l.dropWhile p=[]↔l.all p=true
 | []=>by simp
 | c::l=>by
  rw [List.dropWhile_cons,List.all_cons]
  cases h:p c
  ·simp
  ·simpa using z40 p l
theorem y06 (p:UInt8→Bool):∀ (l t:Bs) (c:UInt8),l.dropWhile p=c::t→p c=false
 | [],_,_,h=>by cases h
 | d::l,t,c,h=>by
  rw [List.dropWhile_cons] at h
  cases hd:p d
  ·rw [hd] at h
   have:d=c:=by simpa using (List.cons.inj h).1
   rw [← this]; exact hd
  ·rw [hd] at h
   exact y06 p l t c (by simpa using h)
theorem y2e (s:Bs):(Lib.trimS s ddL=[])↔s.all isD=true:=by
 unfold Lib.trimS Lib.trimLeftS Lib.trimRightS
 show (List.dropWhile isD (List.dropWhile isD s.reverse).reverse=[])↔_
 rw [z40,List.all_reverse]
 constructor
 ·intro h
  cases hd:List.dropWhile isD s.reverse with
  | nil =>
   have:=(z40 isD s.reverse).1 hd
   rwa [List.all_reverse] at this
  | cons c t =>
   have h1:=y06 isD _ _ _ hd
   rw [hd] at h
   simp [h1] at h
 ·intro h
  rw [(z40 isD s.reverse).2 (by rw [List.all_reverse]; exact h)]; rfl
theorem y2f (s:Bs) (h:s.length≤1000000000):∃ t,Qz s ddL=some t∧decide (t=[])=s.all isD:=by
 unfold Qz
 rw [if_pos ⟨⟨h,by decide⟩,by decide⟩]
 refine ⟨_,rfl,?_⟩
 rw [Bool.eq_iff_iff]
 simpa using y2e s
theorem y08:Lib.decDigits 0=[48]∧Lib.decDigits 1=[49]:=by
 constructor
 ·rw [kw]; rfl
 ·rw [kw]; rfl
theorem u01 (w:Bs):(okN 9 w && !outP (valB w) 0 1)=(decide (w=[48]) || decide (w=[49])):=by
 rw [Bool.eq_iff_iff]
 constructor
 ·intro hh
  simp only [Bool.and_eq_true] at hh
  obtain ⟨h1,h2⟩:=hh
  rw [z57] at h2
  have hb:0≤valB w∧valB w≤1:=by simpa using h2
  unfold okN at h1
  simp only [Bool.and_eq_true,decide_eq_true_eq] at h1
  cases w with
  | nil=>exact absurd rfl h1.2.1.1
  | cons c t =>
   by_cases hc:c=45
   ·subst hc
    rw [z74] at hb
    rw [z22,if_pos rfl] at h1
    have h3:t.head?≠some 48:=by
     rcases h1.2.2 with h | h
     ·exact h
     ·cases h
    have hcan:canD t=true:=by
     unfold canD
     rw [h1.1]
     simp [h3,h1.2.1.1]
    rcases (y07 t hcan).2 with h4 | h4
    ·omega
    ·rw [h4] at h3; exact absurd rfl h3
   ·rw [z73 c t hc] at hb
    rw [z22,if_neg hc] at h1
    have hcan:canD (c::t)=true:=by
     unfold canD
     rw [h1.1]
     rcases h1.2.2 with h | h
     ·simp at h; simp [h]
     ·simp [h]
    have h5:=(y07 _ hcan).1
    have h6:nvB (c::t)=0∨nvB (c::t)=1:=by omega
    rcases h6 with h6 | h6
    ·rw [h6,y08.1] at h5; rw [← h5]; decide
    ·rw [h6,y08.2] at h5; rw [← h5]; decide
 ·intro h
  simp only [Bool.or_eq_true,decide_eq_true_eq] at h
  rcases h with rfl | rfl <;> decide +kernel
theorem y2j (p:Bs) (h:p.all isD=true) (h0:p≠[]) (h3:p.length≤3):∃ l,sub? (p++[48,48]) 0 3=some l∧sub? (p++[48,48,48]) 0 3=some l∧l.all isD=true∧l.length=3:=by
 match p,h,h0,h3 with
 | [a],h,_,_=>exact ⟨[a,48,48],rfl,rfl,by simp at h ⊢; exact ⟨h,by decide⟩,rfl⟩
 | [a,b],h,_,_=>exact ⟨[a,b,48],rfl,rfl,by simp at h ⊢; exact ⟨h.1,h.2,by decide⟩,rfl⟩
 | [a,b,c],h,_,_=>exact ⟨[a,b,c],rfl,rfl,h,rfl⟩
 | a::b::c::d::r,_,_,h3=>simp at h3
theorem nv4 (l:Bs) (h:l.length=3):nvB (48::l)=nvB l∧nvB (49::l)=1000+nvB l:=by
 match l,h with
 | [a,b,c],_ =>
  have e0:dv 48=0:=rfl
  have e1:dv 49=1:=rfl
  constructor
  ·simp [nvB,e0]
  ·simp [nvB,e1]; omega
theorem z5z (v:Bs) (h:v.length≤1000000):∃ q,Zx v=some q∧Ya v=some q:=by
 have hc:=z7f v 46
 have hcf:(Lib.cut v [46]).2.2=false→(Lib.cut v [46]).2.1=[]:=by unfold Lib.cut; split <;> simp
 unfold Zx Ya uc z30
 rw [if_pos (by omega)]
 simp only [Option.bind_some]
 generalize Lib.cut v [46]=r at *
 obtain ⟨w,p,has⟩:=r
 simp only at hc hcf ⊢
 have hk:=y5r w 9 (by omega) (by omega)
 rw [show ((9:Nat):Int)=9 from rfl] at hk
 rw [hk]
 simp only [Option.bind_some,z9p,z66]
 have h01:=u01 w
 have jb:∀ r4,jp (w,p,has) r4 true=some (0,false):=fun r4=>rfl
 have rb:vu (w,p,has) true=some (0,false):=rfl
 by_cases hw:w=[48]∨w=[49]
 ·have hor:(decide (w=[48]) || decide (w=[49]))=true:=by
   rcases hw with h | h <;> simp [h]
  rw [hor] at h01
  simp only [Bool.and_eq_true,Bool.not_eq_true'] at h01
  rw [h01.1]
  simp only [if_true,Bool.not_true,Bool.false_eq_true,if_false]
  rw [h01.2]
  simp only [Bool.false_eq_true,if_false]
  have hat:∀ l:Bs,l.all isD=true→l.length=3→∃ n:Nat,n < 1000∧jr l=some ((n:Int),0)∧jr (w++l)=some (valB w * 1000+(n:Int),0)∧0≤valB w∧valB w≤1:=by
   intro l h1 h2
   have hne:l≠[]:=by intro e; rw [e] at h2; cases h2
   refine ⟨nvB l,z9w 3 l h1 (by omega),z2g l h1 hne (by omega),?_⟩
   rcases hw with rfl | rfl
   ·have e:=z2g (48::l) (by simp only [List.all_cons,h1]; rfl) (by simp) (by simp; omega)
    rw [(nv4 l h2).1] at e
    refine ⟨?_,by decide,by decide⟩
    rw [show valB [48]=0 from rfl]
    simpa using e
   ·have e:=z2g (49::l) (by simp only [List.all_cons,h1]; rfl) (by simp) (by simp; omega)
    rw [(nv4 l h2).2] at e
    refine ⟨?_,by decide,by decide⟩
    rw [show valB [49]=1 from rfl]
    simpa using e
  have hR:∀ x:Option (Int×Bool),(if decide (w≠[48])=true then if decide (w≠[49])=true then vu (w,p,has) true else x else x)=x:=by
   intro x
   rcases hw with rfl | rfl <;> simp
  rw [hR]
  cases has with
  | false =>
   have hp:=hcf rfl
   subst hp
   obtain ⟨n,n1,n2,n3,n4,n5⟩:=hat [48,48,48] (by decide) rfl
   have n0:n=0:=by
    have e:=z2g [48,48,48] (by decide) (by simp) (by simp)
    rw [n2] at e
    have e3:nvB [48,48,48]=0:=rfl
    rw [e3] at e
    have:=(Prod.mk.inj (Option.some.inj e)).1
    omega
   refine ⟨(valB w * 1000,decide (valB w * 1000≤1000)),?_,?_⟩
   ·unfold jp Zh
    simp only [Bool.false_eq_true,if_false]
    rw [wo (by omega)]
   ·unfold vu
    simp only [Bool.false_eq_true,if_false]
    rw [if_pos (by simp),show sub? ([]++[48,48,48]:Bs) 0 3=some [48,48,48] from rfl]
    simp only [Option.bind_some]
    rw [if_pos (by simp; omega),n3,n0]
    simp
  | true =>
   simp only [if_true]
   by_cases hp0:p=[]
   ·subst hp0
    refine ⟨(0,false),?_,?_⟩
    ·simp [jb]
    ·rw [show outP ((([]:Bs).length:Int)) 1 3=true from by decide]
     exact rb
   ·have hl1:1≤p.length:=by cases p with | nil=>exact absurd rfl hp0 | cons a b=>simp
    by_cases hp3:3 < p.length
    ·refine ⟨(0,false),?_,?_⟩
     ·rw [if_neg (by simpa using hp0),if_pos (by simp; omega)]; exact jb _
     ·have:outP (p.length:Int) 1 3=true:=by unfold outP; simp; omega
      rw [this]
      simp only [Bool.not_true,Bool.not_false,if_true]
      exact rb
    ·have:outP (p.length:Int) 1 3=false:=by unfold outP; simp; omega
     rw [this]
     obtain ⟨t,t1,t2⟩:=y2f p (by omega)
     have t1':Qz p [48,49,50,51,52,53,54,55,56,57]=some t:=t1
     have ho:ue p [48,49,50,51,52,53,54,55,56,57]=some (p.all isD):=z9q p ddL (by omega)
     rw [if_neg (by simpa using hp0),if_neg (by simp; omega),t1',ho]
     simp only [Option.bind_some,Bool.not_false,Bool.not_true,Bool.false_eq_true,if_false]
     rw [show decide (t≠[]) = !p.all isD from by rw [← t2]; simp]
     cases hd:p.all isD
     ·exact ⟨(0,false),jb _,rb⟩
     ·obtain ⟨l,l1,l2,l3,l4⟩:=y2j p hd hp0 (by omega)
      obtain ⟨n,n1,n2,n3,n4,n5⟩:=hat l l3 l4
      refine ⟨(valB w * 1000+(n:Int),decide (valB w * 1000+(n:Int)≤1000)),?_,?_⟩
      ·unfold jp Zh
       simp only [Bool.not_true,Bool.false_eq_true,if_false,if_true]
       rw [if_pos (by simp; omega),l1]
       simp only [Option.bind_some,n2]
       rw [if_neg (by simp),wo (n:=valB w * 1000) (by omega),wo (by omega)]
      ·unfold vu
       simp only [Bool.not_true,Bool.false_eq_true,if_false]
       rw [if_pos (by simp; omega),l2]
       simp only [Option.bind_some]
       rw [if_pos (by omega),n3]
       simp
 ·have hor:(decide (w=[48]) || decide (w=[49]))=false:=by
   simp only [not_or] at hw
   simp [hw.1,hw.2]
  rw [hor] at h01
  simp only [not_or] at hw
  refine ⟨(0,false),?_,?_⟩
  ·cases ho:okN 9 w
   ·simp [jb]
   ·rw [ho] at h01
    simp only [Bool.true_and,Bool.not_eq_false'] at h01
    simp only [if_true,Bool.not_true,Bool.false_eq_true,if_false]
    rw [h01]
    simp [jb]
  ·rw [if_pos (by simpa using hw.1),if_pos (by simpa using hw.2)]; exact rb
def qsN (n:Bs):Bool:=decide (n=[113]) || decide (n=[81])
theorem z4l {s t:Bs} (hs:s.length≤1000000) (h:t <:+ s) (told:Bool) (l:List zt) (q:Int) (r36:Bs×zm) (r46:Bool×zm) (v:Bs) (bad:Bool) (hl:l.length+1≤1000000000) (qv:Int×Bool) (hq:Zx v=some qv) :
  xa told l q r36 r46 v s (pS s t) bad=some (.inl (if qsN r36.1=true then (true,l,s,pS s (trL 32 t),(((bad || told) || r46.1) || (!qv.2)),qv.1) else (told,l++[zt.mk r36.1 v],s,pS s (trL 32 t),bad,q))):=by
 unfold xa Qm We
 simp only [Option.bind_some,Ze hs _ h,hq]
 rw [if_pos hl]
 unfold qsN
 cases decide (r36.1=[113]) <;> cases decide (r36.1=[81]) <;> simp
theorem Wn {s t:Bs} (hs:s.length≤1000000) (h:t <:+ s) (told:Bool) (l:List zt) (q:Int) (r36:Bs×zm) (r46:Bool×zm) (v:Bs) (hl:l.length+1≤1000000000) (hv:v.length≤1000000) :
  ∃ told' l' q',l'.length≤l.length+1∧xa told l q r36 r46 v s (pS s t) true=some (.inl (told',l',s,pS s (trL 32 t),true,q')):=by
 obtain ⟨qv,q1,_⟩:=z5z v hv
 rw [z4l hs h told l q r36 r46 v true hl qv q1]
 cases qsN r36.1
 ·exact ⟨told,l++[zt.mk r36.1 v],q,by simp,rfl⟩
 ·exact ⟨true,l,qv.1,by omega,by simp⟩
theorem y7c {s t:Bs} (hs:s.length≤1000000) (h:t <:+ s) (told:Bool) (l:List zt) (q:Int) (r36:Bs×zm) (hl:l.length+1≤1000000000) :
  ∃ told' l' t' q',t' <:+ t∧l'.length≤l.length+1∧ko told l q r36 s (pS s t) true=some (.inl (told',l',s,pS s t',true,q')):=by
 unfold ko
 rw [kf hs true h 34 34 rfl]
 simp only [Option.bind_some]
 have hi:=y0q 34 t
 have hlen:=qo (hi.trans h)
 cases decide (t.head?=some 34)
 ·rw [if_neg (by simp),Yd hs true (hi.trans h)]
  simp only [Option.bind_some,Bool.true_or]
  have hd:=Zb (ifh 34 t)
  obtain ⟨a,b,c,e1,e2⟩:=Wn hs ((hd.trans hi).trans h) told l q r36 (false,zm.mk s (pS s (ifh 34 t)) true) (tk (ifh 34 t)) hl (by have:=z0m (ifh 34 t); omega)
  exact ⟨a,b,_,c,((wh 32 _).trans hd).trans hi,e1,e2⟩
 ·rw [if_pos rfl]
  obtain ⟨t1,t2,t3⟩:=z6r hs true (hi.trans h)
  rw [t3]
  cases hq:quoD [] (ifh 34 t) with
  | none =>
   simp only [Option.bind_some]
   obtain ⟨a,b,c,e1,e2⟩:=Wn hs ((t2.trans hi).trans h) told l q r36 (true,zm.mk s (pS s (ifh 34 t)) true) [] hl (by simp)
   exact ⟨a,b,_,c,((wh 32 _).trans t2).trans hi,e1,e2⟩
  | some p =>
   simp only [Option.bind_some]
   have hp:=z00 _ [] (ifh 34 t) (Nat.le_refl _) p hq
   obtain ⟨a,b,c,e1,e2⟩:=Wn hs ((hp.1.trans hi).trans h) told l q r36 (true,zm.mk s (pS s (ifh 34 t)) true) p.1 hl (by have:=hp.2; simp at this; omega)
   exact ⟨a,b,_,c,((wh 32 _).trans hp.1).trans hi,e1,e2⟩
def parS (t:Bs):Option (Bs×Bs×Bool×Bs):=
  if tokB (up csN t)=true then
    (if (dn csN t).head?=some 61 then
      (if (dn csN t).tail.head?=some 34 then (quoD [] (dn csN t).tail.tail).map fun p=>(up csN t,p.1,true,p.2)
       else (if tokB (up csI (dn csN t).tail)=true then some (up csN t,up csI (dn csN t).tail,false,dn csI (dn csN t).tail) else none))
     else none)
  else none
theorem y4t (t:Bs) {nm v rest:Bs} {qt:Bool} (h:parS t=some (nm,v,qt,rest)):rest <:+ t∧v.length≤t.length:=by
 unfold parS at h
 have h1:=Yw csN t
 have h2:=List.tail_suffix (dn csN t)
 split at h
 ·split at h
  ·split at h
   ·cases hq:quoD [] (dn csN t).tail.tail with
    | none=>rw [hq] at h; cases h
    | some p =>
     rw [hq] at h
     have hp:=z00 _ [] _ (Nat.le_refl _) p hq
     have h3:=List.tail_suffix (dn csN t).tail
     cases h
     refine ⟨((hp.1.trans h3).trans h2).trans h1,?_⟩
     have:=hp.2
     have e:=qo ((h3.trans h2).trans h1)
     simp at this e ⊢
     omega
   ·split at h
    ·cases h
     refine ⟨((Yw csI _).trans h2).trans h1,?_⟩
     have:=xu csI (dn csN t).tail
     have e:=qo (h2.trans h1)
     omega
    ·cases h
  ·cases h
 ·cases h
theorem y7d {s r1:Bs} (hs:s.length≤1000000) (h:r1 <:+ s) (words:Bs) (told:Bool) (l:List zt) (q:Int) (hl:l.length+1≤1000000000) {nm v rest:Bs} {qt:Bool} (hp:parS (trL 32 r1)=some (nm,v,qt,rest)) (qv:Int×Bool) (hq:Zx v=some qv) :
  kq words told l q true s (pS s r1) false=some (.inl (if qsN nm=true then (true,l,s,pS s (trL 32 rest),((told || qt) || (!qv.2)),qv.1) else (told,l++[zt.mk nm v],s,pS s (trL 32 rest),false,q))):=by
 have hT:trL 32 r1 <:+ s:=(wh 32 r1).trans h
 unfold kq
 rw [if_pos rfl,Ze hs false h]
 simp only [Option.bind_some]
 generalize trL 32 r1=t at *
 unfold parS at hp
 split at hp
 ·rename_i h1
  rcases z2y csN t y1b with ⟨_,e1,e2⟩ | ⟨e1,_⟩
  ·have hdn:dn csN t <:+ s:=(Yw csN t).trans hT
   rw [Yd hs false hT,e1,e2,h1]
   simp only [Option.bind_some,Bool.not_true,Bool.or_false,Bool.false_eq_true,if_false]
   split at hp
   ·rename_i h2
    rw [kf hs false hdn 61 61 rfl]
    simp only [Option.bind_some]
    rw [decide_eq_true h2,show ifh 61 (dn csN t)=(dn csN t).tail from if_pos h2]
    have htl:(dn csN t).tail <:+ s:=(List.tail_suffix _).trans hdn
    unfold ko
    rw [Bool.not_true,kf hs false htl 34 34 rfl]
    simp only [Option.bind_some]
    split at hp
    ·rename_i h3
     rw [decide_eq_true h3,if_pos rfl,show ifh 34 (dn csN t).tail=(dn csN t).tail.tail from if_pos h3]
     have htt:(dn csN t).tail.tail <:+ s:=(List.tail_suffix _).trans htl
     obtain ⟨t1,t2,t3⟩:=z6r hs false htt
     rw [t3]
     cases hqd:quoD [] (dn csN t).tail.tail with
     | none=>rw [hqd] at hp; cases hp
     | some p =>
      rw [hqd] at hp
      have hps:=z00 _ [] _ (Nat.le_refl _) p hqd
      cases hp
      simp only [Option.bind_some]
      rw [z4l hs (hps.1.trans htt) told l q _ _ p.1 false hl qv hq]
      simp
    ·rename_i h3
     rw [decide_eq_false h3,show ifh 34 (dn csN t).tail=(dn csN t).tail from if_neg h3]
     simp only [Bool.false_eq_true,if_false]
     split at hp
     ·rename_i h4
      rcases z2y csI (dn csN t).tail z7g with ⟨_,f1,f2⟩ | ⟨f1,_⟩
      ·cases hp
       rw [Yd hs false htl,f1,f2,h4]
       simp only [Option.bind_some,Bool.not_true,Bool.or_false]
       rw [z4l hs ((Yw csI _).trans htl) told l q _ _ _ false hl qv hq]
       simp
      ·rw [f1] at h4; cases h4
     ·cases hp
   ·cases hp
  ·rw [e1] at h1; cases h1
 ·cases hp
theorem y7e {s r1:Bs} (hs:s.length≤1000000) (h:r1 <:+ s) (words:Bs) (told:Bool) (l:List zt) (q:Int) (hl:l.length+1≤1000000000) (hp:parS (trL 32 r1)=none) :
  ∃ told' l' t' b' q',t' <:+ r1∧l'.length≤l.length+1∧kq words told l q true s (pS s r1) false=some (.inl (told',l',s,pS s t',b',q'))∧(b'=true∨∃ d r,t'=d::r∧csI.contains d=false):=by
 have hT1:=wh 32 r1
 have hT:trL 32 r1 <:+ s:=hT1.trans h
 unfold kq
 rw [if_pos rfl,Ze hs false h]
 simp only [Option.bind_some]
 generalize trL 32 r1=t at *
 have htd:td t <:+ r1:=(Zb t).trans hT1
 have bad:∀ r36:Bs×zm,∀ u,u <:+ r1→∃ told' l' t' b' q',t' <:+ r1∧l'.length≤l.length+1∧ko told l q r36 s (pS s u) true=some (.inl (told',l',s,pS s t',b',q'))∧(b'=true∨∃ d r,t'=d::r∧csI.contains d=false):=by
  intro r36 u hu
  obtain ⟨a,b,c,d,e1,e2,e3⟩:=y7c hs (hu.trans h) told l q r36 hl
  exact ⟨a,b,c,true,d,e1.trans hu,e2,e3,.inl rfl⟩
 rw [Yd hs false hT]
 simp only [Option.bind_some,Bool.false_or]
 cases ht:tokB (tk t)
 ·simp only [Bool.not_false,if_true]
  exact bad _ _ htd
 ·simp only [Bool.not_true,Bool.false_eq_true,if_false]
  rw [kf hs false (htd.trans h) 61 61 rfl]
  simp only [Option.bind_some]
  by_cases h2:(td t).head?=some 61
  ·rw [decide_eq_true h2,Bool.not_true]
   have hu:tokB (up csN t)=true∧tk t=up csN t∧td t=dn csN t:=by
    rcases z2y csN t y1b with e | ⟨_,e | ⟨d,r,e,e2⟩⟩
    ·exact e
    ·rw [ht] at e; cases e
    ·rw [e] at h2
     have:d=61:=by simpa using h2
     subst this
     exact absurd e2 (by decide)
   unfold parS at hp
   rw [if_pos hu.1,← hu.2.2,if_pos h2] at hp
   have hi:ifh 61 (td t)=(td t).tail:=if_pos h2
   have htl:(td t).tail <:+ r1:=(List.tail_suffix _).trans htd
   rw [hi]
   unfold ko
   rw [kf hs false (htl.trans h) 34 34 rfl]
   simp only [Option.bind_some]
   by_cases h3:(td t).tail.head?=some 34
   ·rw [if_pos h3] at hp
    rw [decide_eq_true h3,if_pos rfl,show ifh 34 (td t).tail=(td t).tail.tail from if_pos h3]
    have htt:(td t).tail.tail <:+ r1:=(List.tail_suffix _).trans htl
    obtain ⟨t1,t2,t3⟩:=z6r hs false (htt.trans h)
    rw [t3]
    cases hqd:quoD [] (td t).tail.tail with
    | some p=>rw [hqd] at hp; cases hp
    | none =>
     simp only [Option.bind_some]
     obtain ⟨a,b,c,e1,e2⟩:=Wn hs ((t2.trans htt).trans h) told l q (tk t,zm.mk s (pS s (td t)) false) (true,zm.mk s (pS s (td t).tail.tail) false) [] hl (by simp)
     exact ⟨a,b,_,true,c,((wh 32 _).trans t2).trans htt,e1,e2,.inl rfl⟩
   ·rw [if_neg h3] at hp
    rw [decide_eq_false h3,show ifh 34 (td t).tail=(td t).tail from if_neg h3]
    simp only [Bool.false_eq_true,if_false]
    have hno:tokB (up csI (td t).tail)=false:=by
     cases h4:tokB (up csI (td t).tail)
     ·rfl
     ·rw [if_pos h4] at hp; cases hp
    rw [Yd hs false (htl.trans h)]
    simp only [Option.bind_some,Bool.false_or]
    have htk:=z0m (td t).tail
    have hlen:=qo (htl.trans h)
    have hdd:td (td t).tail <:+ r1:=(Zb _).trans htl
    rcases z2y csI (td t).tail z7g with ⟨e,_⟩ | ⟨_,e | ⟨d,r,e,e2⟩⟩
    ·rw [hno] at e; cases e
    ·rw [e,Bool.not_false]
     obtain ⟨a,b,c,e1,e2⟩:=Wn hs (hdd.trans h) told l q (tk t,zm.mk s (pS s (td t)) false) (false,zm.mk s (pS s (td t).tail) false) (tk (td t).tail) hl (by omega)
     exact ⟨a,b,_,true,c,(wh 32 _).trans hdd,e1,e2,.inl rfl⟩
    ·cases ht2:tokB (tk (td t).tail)
     ·rw [Bool.not_false]
      obtain ⟨a,b,c,e1,e2⟩:=Wn hs (hdd.trans h) told l q (tk t,zm.mk s (pS s (td t)) false) (false,zm.mk s (pS s (td t).tail) false) (tk (td t).tail) hl (by omega)
      exact ⟨a,b,_,true,c,(wh 32 _).trans hdd,e1,e2,.inl rfl⟩
     ·rw [Bool.not_true]
      obtain ⟨qv,q1,_⟩:=z5z (tk (td t).tail) (by omega)
      rw [z4l hs (hdd.trans h) told l q _ _ (tk (td t).tail) false hl qv q1]
      have hnb:trL 32 (td (td t).tail)=d::r:=by
       rw [e]
       refine z5d 32 _ fun hd => ?_
       have:d=32:=by simpa using hd
       subst this
       exact absurd e2 (by decide)
      rw [hnb]
      have hsuf:d::r <:+ r1:=by rw [← e]; exact hdd
      cases qsN (tk t)
      ·exact ⟨_,_,d::r,_,_,hsuf,by simp,rfl,.inr ⟨d,r,rfl,e2⟩⟩
      ·exact ⟨_,_,d::r,_,_,hsuf,by simp,rfl,.inr ⟨d,r,rfl,e2⟩⟩
  ·rw [decide_eq_false h2,Bool.not_false]
   exact bad _ _ ((y0q 61 _).trans htd)
theorem hp1 (c:UInt8) (t:Bs):Zw t [c]=some (decide (t.head?=some c)):=by
 unfold Zw Lib.hasPrefix
 cases t with
 | nil=>rfl
 | cons x r =>
  by_cases h:c=x
  ·subst h; simp
  ·have h':¬ x=c:=fun e=>h e.symm
   have h2:(c == x)=false:=by simpa using h
   simp [List.isPrefixOf,h2,h']
theorem Yy {s t:Bs} (h:ascB s=true) (hm:t <:+ s):ascB t=true:=y1k h fun c hc=>hm.subset hc
theorem z0n (t:Bs) (c:UInt8) (h:t.head?=some c):sub? t 1 (t.length:Int)=some t.tail:=by
 cases t with
 | nil=>cases h
 | cons x r=>exact z0o x r
theorem y4r (r1:Bs) (x:zg) (told:Bool) (ha:ascB r1=true) (hl:r1.length≤1000000) (hx:x.Params.length+1≤1000000000) {nm v rest:Bs} {qt:Bool} (hp:parS (trL 32 r1)=some (nm,v,qt,rest)) (qv:Int×Bool) (hq:Ya v=some qv) :
  xf (yb.mk r1) x told=some (if qsN nm=true then (((qv.2 && (!told)) && (!qt)),yb.mk rest,zg.mk x.Words x.Params qv.1,true) else (true,yb.mk rest,zg.mk x.Words (x.Params++[zt.mk nm v]) x.Quality,told)):=by
 have hT:=wh 32 r1
 have hTl:=qo hT
 have hTa:=Yy ha hT
 unfold xf
 rw [xr r1 hl]
 simp only [Option.bind_some]
 generalize trL 32 r1=t at *
 have hup:=xu csN t
 have hU:js (yb.mk t) [61,44,59,32]=some (up csN t,yb.mk (dn csN t)):=z0i t csN hTa (by omega) (by decide) (by decide)
 rw [hU]
 simp only [Option.bind_some]
 rw [uo _ (by omega)]
 simp only [Option.bind_some]
 have hJ2:∀ r6 r19 vv c,r6.1=nm→Ya vv=some qv→vv=v→r19=qt→c=rest→Ym x told r6 r19 vv true c=some (if qsN nm=true then (((qv.2 && (!told)) && (!qt)),yb.mk rest,zg.mk x.Words x.Params qv.1,true) else (true,yb.mk rest,zg.mk x.Words (x.Params++[zt.mk nm v]) x.Quality,told)):=by
  intro r6 r19 vv c e1 e2 e3 e4 e5
  subst e1 e3 e4 e5
  unfold Ym qsN
  rw [if_pos hx,e2]
  by_cases a1:r6.1=[113] <;> by_cases a2:r6.1=[81] <;> simp [a1,a2]
 unfold parS at hp
 split at hp
 ·rename_i h1
  rw [h1]
  simp only [Bool.not_true,Bool.false_eq_true,if_false]
  rw [hp1 61]
  simp only [Option.bind_some]
  split at hp
  ·rename_i h2
   rw [decide_eq_true h2]
   unfold Yn
   simp only [Bool.not_true,Bool.false_eq_true,if_false]
   rw [z0n _ 61 h2]
   simp only [Option.bind_some]
   rw [hp1 34]
   simp only [Option.bind_some]
   have htl:(dn csN t).tail <:+ t:=(List.tail_suffix _).trans (Yw csN t)
   have htll:=qo htl
   split at hp
   ·rename_i h3
    rw [decide_eq_true h3,if_pos rfl,z0n _ 34 h3]
    simp only [Option.bind_some]
    have:=qo (List.tail_suffix (dn csN t).tail)
    obtain ⟨t',e⟩:=z9b (dn csN t).tail.tail (by omega)
    rw [e]
    cases hqd:quoD [] (dn csN t).tail.tail with
    | none=>rw [hqd] at hp; cases hp
    | some p =>
     rw [hqd] at hp
     have hp':=Option.some.inj hp
     simp only [Prod.mk.injEq] at hp'
     simp only [Option.bind_some]
     exact hJ2 _ _ _ _ hp'.1 (by rw [hp'.2.1]; exact hq) hp'.2.1 hp'.2.2.1 hp'.2.2.2
   ·rename_i h3
    rw [decide_eq_false h3]
    simp only [Bool.false_eq_true,if_false]
    have hU2:js (yb.mk (dn csN t).tail) [44,59,32]=some (up csI (dn csN t).tail,yb.mk (dn csI (dn csN t).tail)):=z0i _ csI (Yy hTa htl) (by omega) (by decide) (by decide)
    have hul:=xu csI (dn csN t).tail
    rw [hU2]
    simp only [Option.bind_some]
    rw [uo _ (by omega)]
    simp only [Option.bind_some]
    split at hp
    ·rename_i h4
     rw [h4]
     have hp':=Option.some.inj hp
     simp only [Prod.mk.injEq] at hp'
     exact hJ2 _ _ _ _ hp'.1 (by rw [hp'.2.1]; exact hq) hp'.2.1 hp'.2.2.1 hp'.2.2.2
    ·cases hp
  ·cases hp
 ·cases hp
theorem y4s (r1:Bs) (x:zg) (told:Bool) (ha:ascB r1=true) (hl:r1.length≤1000000) (hp:parS (trL 32 r1)=none):∃ rd x' b',xf (yb.mk r1) x told=some (false,rd,x',b'):=by
 have hT:=wh 32 r1
 have hTl:=qo hT
 have hTa:=Yy ha hT
 unfold xf
 rw [xr r1 hl]
 simp only [Option.bind_some]
 generalize trL 32 r1=t at *
 have hup:=xu csN t
 have hU:js (yb.mk t) [61,44,59,32]=some (up csN t,yb.mk (dn csN t)):=z0i t csN hTa (by omega) (by decide) (by decide)
 rw [hU]
 simp only [Option.bind_some]
 rw [uo _ (by omega)]
 simp only [Option.bind_some]
 unfold parS at hp
 cases h1:tokB (up csN t)
 ·exact ⟨_,_,_,rfl⟩
 ·rw [if_pos h1] at hp
  simp only [Bool.not_true,Bool.false_eq_true,if_false]
  rw [hp1 61]
  simp only [Option.bind_some]
  by_cases h2:(dn csN t).head?=some 61
  ·rw [if_pos h2] at hp
   rw [decide_eq_true h2]
   unfold Yn
   simp only [Bool.not_true,Bool.false_eq_true,if_false]
   rw [z0n _ 61 h2]
   simp only [Option.bind_some]
   rw [hp1 34]
   simp only [Option.bind_some]
   have htl:(dn csN t).tail <:+ t:=(List.tail_suffix _).trans (Yw csN t)
   have htll:=qo htl
   by_cases h3:(dn csN t).tail.head?=some 34
   ·rw [if_pos h3] at hp
    rw [decide_eq_true h3,if_pos rfl,z0n _ 34 h3]
    simp only [Option.bind_some]
    have:=qo (List.tail_suffix (dn csN t).tail)
    obtain ⟨t',e⟩:=z9b (dn csN t).tail.tail (by omega)
    rw [e]
    cases hqd:quoD [] (dn csN t).tail.tail with
    | some p=>rw [hqd] at hp; cases hp
    | none=>exact ⟨_,_,_,rfl⟩
   ·rw [if_neg h3] at hp
    rw [decide_eq_false h3]
    simp only [Bool.false_eq_true,if_false]
    have hU2:js (yb.mk (dn csN t).tail) [44,59,32]=some (up csI (dn csN t).tail,yb.mk (dn csI (dn csN t).tail)):=z0i _ csI (Yy hTa htl) (by omega) (by decide) (by decide)
    have hul:=xu csI (dn csN t).tail
    rw [hU2]
    simp only [Option.bind_some]
    rw [uo _ (by omega)]
    simp only [Option.bind_some]
    cases h4:tokB (up csI (dn csN t).tail)
    ·exact ⟨_,_,_,rfl⟩
    ·rw [if_pos h4] at hp; cases hp
  ·rw [decide_eq_false h2]
   exact ⟨_,_,_,rfl⟩
end Go.Proofs.YtpjjkhcojjcdpaaGreatDoor
