/- Plain: streams of requests and responses for caches. -/
import Derived.Test.YtahcnngcpjkpgabGreatDoorRtpZw
import Derived.Test.YtahcnngcpjkpgabGreatDoorNmZw
import Derived.Test.YtahcnngcpjkpgabGreatDoorQyZw
namespace Go.Proofs.YtahcnngcpjkpgabGreatDoor
set_option linter.unusedVariables false
set_option maxRecDepth 20000
theorem y6k (c x:UInt8) (l:Bs):spl c (x::l)=if x=c then []::spl c l else match spl c l with
  | p::ps=>(x::p)::ps
  | []=>[[x]]:=rfl
theorem x3e (c:UInt8) (b:Bs):∀ a:Bs,spl c (a++c::b)=spl c a++spl c b
 | []=>by
  rw [List.nil_append,y6k,if_pos rfl]; rfl
 | x::a=>by
  rw [List.cons_append,y6k,y6k,x3e c b a]
  by_cases h:x=c
  ·rw [if_pos h,if_pos h]; rfl
  ·rw [if_neg h,if_neg h]
   cases hq:spl c a with
   | nil=>exact absurd hq (x3c c a)
   | cons p ps=>rfl
theorem y6j (c:UInt8):∀ l:List Bs,l≠[]→spl c (Lib.join l [c])=(l.map (spl c)).flatten
 | [],h=>absurd rfl h
 | [x],_=>by rw [Lib.join_one]; simp
 | x::y::l,_=>by
  have h:Lib.join (x::y::l) [c]=x++c::Lib.join (y::l) [c]:=by
   rw [Lib.join_cons,Lib.join_cons]
   simp [Lib.joinTail]
  rw [h,x3e,y6j c (y::l) (by simp)]
  simp
def tfB (l:List Bs):List Bs:=(l.map fun p=>trL 32 (trR 32 p)).filter fun p=>decide (p≠[])
theorem y59 (a b:List Bs):tfB (a++b)=tfB a++tfB b:=by simp [tfB]
theorem y1r (l:List Bs):(tfB l).length≤l.length:=by
 unfold tfB
 have:=(List.filter_sublist (p:=fun p:Bs=>decide (p≠[])) (l:=l.map fun p=>trL 32 (trR 32 p))).length_le
 simpa using this
theorem w1c {l:List Bs} {p:Bs} (h:p∈tfB l):∃ q,q∈l∧p.length≤q.length∧∀ c,c∈p→c∈q:=by
 unfold tfB at h
 obtain ⟨q,h1,h2⟩:=List.mem_map.1 (List.mem_filter.1 h).1
 have:=w00 32 q
 rw [h2] at this
 exact ⟨q,h1,this⟩
def ptsB (l:List Bs):List Bs:=tfB (l.map (spl 44)).flatten
theorem y2g {l:List Bs} {p:Bs} (h:p∈ptsB l):∃ v,v∈l∧p.length≤v.length∧∀ c,c∈p→c∈v:=by
 obtain ⟨q,h1,h2,h3⟩:=w1c h
 obtain ⟨x,h4,h5⟩:=List.mem_flatten.1 h1
 obtain ⟨v,h6,rfl⟩:=List.mem_map.1 h4
 have:=Ww 44 v q h5
 exact ⟨v,h6,by omega,fun c hc=>x3d 44 v q h5 c (h3 c hc)⟩
def vlP (V:List Bs):Prop:=V.length≤1000∧∀ v,v∈V→v.length≤2000
theorem x4l:∀ (l:List Bs) (k:Nat) (q:List Bs),(∀ x,x∈l→x.length≤2000)→q.length+l.length≤100000000 →
  forL (fun (k:Nat) (x:Bs) (s:(List Bs))=>Qj k x s) (fun (s:(List Bs))=>z44 s) k l q=some (.inl (q++tfB l))
 | [],k,q,_,_=>by show some (Sum.inl q)=_; simp [tfB]
 | x::l,k,q,h,hl=>by
  simp only [List.length_cons] at hl
  have hx:=h x (by simp)
  have hst:Qj k x q=some (.inl (q++tfB [x])):=by
   unfold Qj Ql
   rw [z4a 32 (by decide) x (by omega)]
   simp only [Option.bind_some]
   by_cases h0:trL 32 (trR 32 x)=[]
   ·rw [if_neg (by simpa using h0)]
    simp [tfB,h0]
   ·rw [if_pos (by simpa using h0),if_pos (by omega)]
    simp [tfB,h0]
  show (Qj k x q).bind _=_
  rw [hst]
  have h1:=y1r [x]
  refine Eq.trans (x4l l (k+1) (q++tfB [x]) (fun y hy=>h y (List.mem_cons_of_mem _ hy)) (by simp only [List.length_append,List.length_cons,List.length_nil] at h1 ⊢; omega)) ?_
  rw [List.append_assoc,← y59]; rfl
theorem y7h:∀ (l:List Bs) (k:Nat) (q:List Bs),(∀ x,x∈l→x.length≤2000)→q.length+l.length≤100000000 →
  forL (fun (k:Nat) (x:Bs) (s:(List Bs))=>y0f k x s) (fun (s:(List Bs))=>x7c s) k l q=some (q++tfB l)
 | [],k,q,_,_=>by show some q=_; simp [tfB]
 | x::l,k,q,h,hl=>by
  simp only [List.length_cons] at hl
  have hx:=h x (by simp)
  have hst:y0f k x q=some (.inl (q++tfB [x])):=by
   unfold y0f y9n
   rw [z4a 32 (by decide) x (by omega)]
   simp only [Option.bind_some]
   by_cases h0:trL 32 (trR 32 x)=[]
   ·rw [if_neg (by simpa using h0)]
    simp [tfB,h0]
   ·rw [if_pos (by simpa using h0),if_pos (by omega)]
    simp [tfB,h0]
  show (y0f k x q).bind _=_
  rw [hst]
  have h1:=y1r [x]
  refine Eq.trans (y7h l (k+1) (q++tfB [x]) (fun y hy=>h y (List.mem_cons_of_mem _ hy)) (by simp only [List.length_append,List.length_cons,List.length_nil] at h1 ⊢; omega)) ?_
  rw [List.append_assoc,← y59]; rfl
theorem x4h (V:List Bs) (h:∀ v,v∈V→v.length≤2000):(V.map (spl 44)).flatten.length≤V.length * 2001∧∀ x,x∈(V.map (spl 44)).flatten→x.length≤2000:=by
 induction V with
 | nil=>simp
 | cons v V ih =>
  obtain ⟨h1,h2⟩:=ih fun x hx=>h x (List.mem_cons_of_mem _ hx)
  have h3:=z1r 44 v
  have h4:=h v (by simp)
  simp only [List.map_cons,List.flatten_cons,List.length_append,List.length_cons,Nat.succ_mul]
  refine ⟨by omega,fun x hx => ?_⟩
  rcases List.mem_append.1 hx with hx | hx
  ·have:=Ww 44 v x hx; omega
  ·exact h2 x hx
theorem x4m:∀ (V:List Bs) (k:Nat) (q:List Bs),(∀ v,v∈V→v.length≤2000)→q.length+V.length * 2001≤90000000 →
  forL (fun (k:Nat) (x:Bs) (s:(List Bs))=>Qk k x s) (fun (s:(List Bs))=>z45 s) k V q=some (q++ptsB V)
 | [],k,q,_,_=>by show some q=_; simp [ptsB,tfB]
 | v::V,k,q,h,hl=>by
  simp only [List.length_cons,Nat.succ_mul] at hl
  have hv:=h v (by simp)
  have h3:=z1r 44 v
  have hst:Qk k v q=some (.inl (q++tfB (spl 44 v))):=by
   unfold Qk vz
   rw [if_pos ⟨by omega,by simp⟩,Wv]
   simp only [Option.bind_some]
   rw [if_pos (by omega)]
   exact x4l (spl 44 v) 0 q (fun x hx=>by have:=Ww 44 v x hx; omega) (by omega)
  show (Qk k v q).bind _=_
  rw [hst]
  have h1:=y1r (spl 44 v)
  refine Eq.trans (x4m V (k+1) (q++tfB (spl 44 v)) (fun y hy=>h y (List.mem_cons_of_mem _ hy)) (by simp only [List.length_append]; omega)) ?_
  unfold ptsB
  rw [List.map_cons,List.flatten_cons,y59,List.append_assoc]
theorem z4m (V:List Bs) (h:vlP V):z0p V=some (ptsB V):=by
 obtain ⟨h1,h2⟩:=h
 unfold z0p
 rw [if_pos (by omega),x4m V 0 [] h2 (by simp; omega)]; rfl
theorem x4k (V:List Bs) (h:vlP V):y29 V=some (ptsB V):=by
 obtain ⟨h1,h2⟩:=h
 have hj:=z0x 2000 [44] V h2
 have hl:V.length * (2000+([44]:Bs).length)≤1000 * 2001:=Nat.mul_le_mul h1 (by simp)
 have hp:=x4h V h2
 unfold y29 ji vz
 rw [if_pos ⟨by omega,by omega⟩]
 simp only [Option.bind_some]
 rw [if_pos ⟨by omega,by simp⟩,Wv]
 simp only [Option.bind_some]
 cases hV:V with
 | nil =>
  have e:spl 44 (Lib.join [] [44])=[[]]:=rfl
  rw [e,if_pos (by simp),y7h [[]] 0 [] (by simp) (by simp)]
  rfl
 | cons v V' =>
  rw [y6j 44 (v::V') (by simp),← hV,if_pos (by omega),y7h _ 0 [] hp.2 (by have:=hp.1; simp only [List.length_nil]; omega)]
  rfl
def idxB (ns:List Bs) (nm:Bs):Int:=fdx (fun x=>decide (nm=x)) 0 ns
theorem z3a (ns:List Bs) (nm:Bs) (h:ns.length≤1000000000):Qp ns nm=some (idxB ns nm):=
 y90 ns (p:=fun x=>some (decide (nm=x))) (fun x=>decide (nm=x)) h fun _ _=>rfl
def hvP (n B:Nat) (l:List zg):Prop:=l.length≤n∧∀ x,x∈l→nmOK x∧x.Value.length≤B
theorem y9h {n B:Nat} {l:List zg} (h:hvP n B l):∀ x,x∈l→nmOK x:=fun x hx=>(h.2 x hx).1
theorem w8w:z24 []=some false:=by decide +kernel
theorem x3z (r:zw) (h:rqP r):∃ e,jk r=some e∧y3c r=some e∧(e=0→hdsE r.Headers=0∧fldB r.From=true∧(r.Host.length≤2000∧r.Host≠[])):=by
 obtain ⟨e,e1,e2⟩:=x31 r h
 refine ⟨e,e1,e2,fun h0 => ?_⟩
 subst h0
 obtain ⟨p1,p2,p3,p4,p5,p6⟩:=h
 obtain ⟨b,q,c1,c2,c3⟩:=y33 p2
 have hh:=Qz r.Headers p6
 have hl:r.Host.length≤1000:=of_decide_eq_true (List.all_eq_true.1 y0a _ p2)
 have hne:b=true→r.Host≠[]:=fun hb hx=>by
  rw [hx,z6g [] (by simp),w8w,hb] at c1
  cases c1
 unfold jk xy at e1
 rw [z6f,Yq _ (by omega),c1,z8l _ (by omega),y2f _ (by omega),z0y _ (by omega),hh.1] at e1
 simp only [Option.bind_some] at e1
 cases hm:momP r.At
 ·rw [hm] at e1; simp at e1
 ·cases ht:tokB r.Method
  ·rw [hm,ht] at e1; simp at e1
  ·cases b
   ·rw [hm,ht] at e1; simp at e1
   ·cases hp:pthB r.Path
    ·rw [hm,ht,hp] at e1; simp at e1
    ·cases hq:qryB r.Query
     ·rw [hm,ht,hp,hq] at e1; simp at e1
     ·cases hf:fldB r.From
      ·rw [hm,ht,hp,hq,hf] at e1; simp at e1
      ·rw [hm,ht,hp,hq,hf] at e1
       by_cases h0:hdsE r.Headers=0
       ·exact ⟨h0,rfl,by omega,hne rfl⟩
       ·simp [h0] at e1
theorem w89 {r:zw} (h:hdsE r.Headers=0):hvP 50 2000 r.Headers∧∀ x,x∈r.Headers→ascB x.Value=true:=by
 have hok:=z3b h
 exact ⟨⟨xl h,fun x hx=>⟨⟨Zl (hok x hx).1,by have:=Ye (hok x hx).1; omega⟩,Wd (hok x hx).2⟩⟩,fun x hx=>y2b (y94 (hok x hx).2)⟩
noncomputable def Wz (s1:Bs):Option (Bs×Int):=
 (z24 s1).bind fun (r2:(Bool))=>if !r2 then (some ([],3)) else ((jv s1).bind fun (r5:(Bs))=>(vq r5 [58]).bind fun (r7:(Bs×Bs×Bool))=>if (((decide (r7.2.1=[])) || (decide (r7.2.1=[56,48]))) || (decide (r7.2.1=[52,52,51]))) then (some (r7.1,0)) else (if r7.1.length+[58].length≤1000000000 then (if (r7.1++[58]).length+r7.2.1.length≤1000000000 then (some (((r7.1++[58])++r7.2.1),0)) else none) else none))
noncomputable def x62 (s:Bs):Bool:=match Wz s,y34 s with
 | some a,some b=>decide (a=b)
 | _,_=>false
theorem w8t:jx.all x62=true:=by decide +kernel
theorem w8x {s:Bs} (h:s∈jx):∃ r,xi s=some r∧z5w s=some r:=by
 have h1:=List.all_eq_true.1 w8t s h
 have h2:=of_decide_eq_true (List.all_eq_true.1 y0a s h)
 have e:xi s=Wz s:=by
  unfold xi Wz
  rw [z6g s (by omega)]
 rw [e,x61 s (by omega)]
 unfold x62 at h1
 split at h1
 ·rename_i a b e1 e2
  exact ⟨b,by rw [e1,of_decide_eq_true h1],e2⟩
 ·cases h1
section
variable {α β σ τ ρ ρ':Type}
theorem z23 {body:σ→Option (σ ⊕ ρ)} {s s':σ} (h:body s=some (.inl s')):iter body s=iter body s':=by
 have key:∀ r,iter body s=some r↔iter body s'=some r:=fun r=>by
  rw [Zy,Zy]
  constructor
  ·rintro ⟨n,hn⟩
   cases n with
   | zero=>cases hn
   | succ n =>
    have hn:(body s).bind (after (itN body n))=some r:=hn
    rw [h] at hn
    exact ⟨n,hn⟩
  ·rintro ⟨n,hn⟩
   exact ⟨n+1,by show (body s).bind (after (itN body n))=some r; rw [h]; exact hn⟩
 cases h1:iter body s' with
 | some r=>exact (key r).2 h1
 | none =>
  cases h2:iter body s with
  | none=>rfl
  | some r=>rw [(key r).1 h2] at h1; cases h1
theorem kw {body:σ→Option (σ ⊕ ρ)} {s:σ} {r:ρ} (h:body s=some (.inr r)):iter body s=some r:=
 Zy.2 ⟨1,by show (body s).bind (after (itN body 0))=some r; rw [h]; rfl⟩
def gJ4 (i j:Int) (l:List α) (v:Bool):Option ((Int×List α) ⊕ ((Int×List α) ⊕ List α)):=
 if v then ((at? l (wr (j - 1))).bind fun (x22:α)=>(at? l j).bind fun (x24:α)=>(at? (l.set j.toNat x22) (wr (j - 1))).bind fun (x26:α)=>some (.inl (wr (j - 1),((l.set j.toNat x22).set ((wr (j - 1)).toNat) x24)))) else (Option.map .inr (some (.inl (wr (i+1),l))))
def gL3 (a:Int) (p:α→α→Option Int) (i j:Int) (l:List α):Option ((Int×List α) ⊕ ((Int×List α) ⊕ List α)):=
 if decide (a < j) then ((at? l j).bind fun (x13:α)=>(at? l (wr (j - 1))).bind fun (x15:α)=>(p x13 x15).bind fun (r17:Int)=>gJ4 i j l (decide (r17 < 0))) else (gJ4 i j l false)
noncomputable def gL1 (a b:Int) (p:α→α→Option Int) (i:Int) (l:List α):Option ((Int×List α) ⊕ List α):=
 if decide (i < b) then (iter (fun (s:Int×List α)=>gL3 a p i s.1 s.2) (i,l)) else (some (.inr l))
noncomputable def gIns (l:List α) (a b:Int) (p:α→α→Option Int):Option (List α):=iter (fun (s:Int×List α)=>gL1 a b p s.1 s.2) (wr (a+1),l)
theorem x84 (A C:List α) (x:α):at? (A++x::C) (A.length:Int)=some x:=by
 rw [y01]; simp
theorem w1i (A C:List α) (y x:α):((A++y::x::C).set (A.length+1) y).set A.length x=A++x::y::C:=by
 induction A with
 | nil=>rfl
 | cons a A ih=>simp only [List.cons_append,List.length_cons,List.set_cons_succ,ih]
section
variable {p:α→α→Option Int} {q:β→β→Option Int} {f:α→β}
def y39 (p:α→α→Option Int) (q:β→β→Option Int) (f:α→β) (x y:α):Prop:=∃ c d,p x y=some c∧q (f x) (f y)=some d∧(c < 0↔d < 0)
theorem y9y (i:Int) (l:List α):gL3 0 p i 0 l=some (.inr (.inl (wr (i+1),l))):=by
 unfold gL3 gJ4
 simp
theorem y4o (i:Int) (A C:List α) (y x:α) {c:Int} (hA:A.length≤1000000) (hp:p x y=some c) (hc:¬ c < 0):gL3 0 p i ((A.length+1:Nat):Int) (A++y::x::C)=some (.inr (.inl (wr (i+1),A++y::x::C))):=by
 have e1:wr (((A.length+1:Nat):Int) - 1)=(A.length:Int):=by rw [qc (by omega)]; omega
 have e2:at? (A++y::x::C) ((A.length+1:Nat):Int)=some x:=by rw [y01]; simp
 unfold gL3 gJ4
 rw [if_pos (by simp),e1,e2,x84]
 simp only [Option.bind_some,hp]
 rw [if_neg (by simpa using hc)]; rfl
theorem y9z (i:Int) (A C:List α) (y x:α) {c:Int} (hA:A.length≤1000000) (hp:p x y=some c) (hc:c < 0):gL3 0 p i ((A.length+1:Nat):Int) (A++y::x::C)=some (.inl ((A.length:Int),A++x::y::C)):=by
 have e1:wr (((A.length+1:Nat):Int) - 1)=(A.length:Int):=by rw [qc (by omega)]; omega
 have e2:at? (A++y::x::C) ((A.length+1:Nat):Int)=some x:=by rw [y01]; simp
 unfold gL3 gJ4
 rw [if_pos (by simp),e1,e2,x84]
 simp only [Option.bind_some,hp]
 rw [if_pos (by simpa using hc)]
 simp only [Int.toNat_natCast]
 have e3:at? ((A++y::x::C).set (A.length+1) y) (A.length:Int)=some y:=by
  rw [y01,List.getElem?_set_ne (by omega)]; simp
 rw [e3]
 simp only [Option.bind_some]
 rw [w1i]
theorem w8o (i:Int) (x:α) (C:List α):∀ (n:Nat) (A B:List α),A.length=n→n≤1000000→(∀ y,y∈A→y39 p q f x y) →
  ∃ A' B',A'++B'=A++B∧iter (fun (s:Int×List α)=>gL3 0 p i s.1 s.2) ((n:Int),A++x::(B++C))=some (.inl (wr (i+1),A'++x::(B'++C))) ∧
   iter (fun (s:Int×List β)=>gL3 0 q i s.1 s.2) ((n:Int),(A++x::(B++C)).map f)=some (.inl (wr (i+1),(A'++x::(B'++C)).map f)):=by
 intro n
 induction n with
 | zero =>
  intro A B hA _ _
  exact ⟨A,B,rfl,kw (y9y i _),kw (y9y i _)⟩
 | succ n ih =>
  intro A B hA hn hg
  obtain ⟨A0,y,rfl⟩:∃ A0 y,A=A0++[y]:=by
   rcases List.eq_nil_or_concat A with rfl | ⟨A0,y,h⟩
   ·simp at hA
   ·exact ⟨A0,y,by simpa using h⟩
  have hA0:A0.length=n:=by simpa using hA
  obtain ⟨c,d,h1,h2,h3⟩:=hg y (by simp)
  subst hA0
  have e1:(A0++[y])++x::(B++C)=A0++y::x::(B++C):=by simp
  have e2:(A0++y::x::(B++C)).map f=A0.map f++f y::f x::(B++C).map f:=by simp
  have hl:A0.length=(A0.map f).length:=by simp
  by_cases hc:c < 0
  ·obtain ⟨A',B',q1,q2,q3⟩:=ih A0 (y::B) rfl (by omega) (fun z hz=>hg z (List.mem_append_left _ hz))
   refine ⟨A',B',by rw [q1]; simp,?_,?_⟩
   ·rw [e1]
    exact (z23 (y9z i A0 (B++C) y x (by omega) h1 hc)).trans q2
   ·rw [e1,e2]
    have h4:=y9z i (A0.map f) ((B++C).map f) (f y) (f x) (by rw [← hl]; omega) h2 (h3.1 hc)
    rw [← hl] at h4
    refine (z23 h4).trans ?_
    have e3:(A0++x::(y::B++C)).map f=A0.map f++f x::f y::(B++C).map f:=by simp
    rw [← e3]; exact q3
  ·refine ⟨A0++[y],B,rfl,?_,?_⟩
   ·rw [e1]
    exact kw (y4o i A0 (B++C) y x (by omega) h1 hc)
   ·rw [e1,e2]
    have h4:=y4o i (A0.map f) ((B++C).map f) (f y) (f x) (by rw [← hl]; omega) h2 (fun h=>hc (h3.2 h))
    rw [← hl] at h4
    exact kw h4
theorem x6w (m:Nat):∀ (rest pre:List α),pre.length+rest.length=m→m≤1000000→(∀ y x,y∈pre→x∈rest→y39 p q f x y)→rest.Pairwise (fun y x=>y39 p q f x y) →
  ∃ r,r.Perm (pre++rest)∧iter (fun (s:Int×List α)=>gL1 0 (m:Int) p s.1 s.2) ((pre.length:Int),pre++rest)=some r ∧
   iter (fun (s:Int×List β)=>gL1 0 (m:Int) q s.1 s.2) ((pre.length:Int),(pre++rest).map f)=some (r.map f)
 | [],pre,hm,_,_,_=>by
  refine ⟨pre++[],List.Perm.refl _,kw ?_,kw ?_⟩
  ·unfold gL1; rw [if_neg (by simp at hm; simp; omega)]
  ·unfold gL1; rw [if_neg (by simp at hm; simp; omega)]
 | x::rest,pre,hm,hb,hg,hp=>by
  simp only [List.length_cons] at hm
  obtain ⟨hp1,hp2⟩:=List.pairwise_cons.1 hp
  obtain ⟨A',B',q1,q2,q3⟩:=w8o (p:=p) (q:=q) (f:=f) (pre.length:Int) x rest pre.length pre [] rfl (by omega) (fun y hy=>hg y x hy (by simp))
  rw [List.append_nil] at q1
  rw [List.nil_append] at q2 q3
  have hw:wr ((pre.length:Int)+1)=((pre.length+1:Nat):Int):=y5b (by omega)
  have hlen:(A'++x::B').length=pre.length+1:=by
   have:=congrArg List.length q1
   simp at this ⊢; omega
  have hperm:(A'++x::B').Perm (x::pre):=by
   rw [← q1]; exact List.perm_middle
  obtain ⟨r,r1,r2,r3⟩:=x6w m rest (A'++x::B') (by rw [hlen]; omega) hb (fun y z hy hz=>by
   rcases List.mem_cons.1 (hperm.mem_iff.1 hy) with rfl | hy
   ·exact hp1 z hz
   ·exact hg y z hy (List.mem_cons_of_mem _ hz)) hp2
  have e0:A'++x::(B'++rest)=(A'++x::B')++rest:=by simp
  rw [hlen,← hw,← e0] at r2 r3
  have hlt:decide ((pre.length:Int) < (m:Int))=true:=by simp; omega
  refine ⟨r,r1.trans ?_,?_,?_⟩
  ·refine (hperm.append_right rest).trans ?_
   exact List.perm_middle.symm
  ·refine (z23 (s':=(wr ((pre.length:Int)+1),A'++x::(B'++rest))) ?_).trans r2
   unfold gL1
   rw [if_pos hlt]
   exact q2
  ·refine (z23 (s':=(wr ((pre.length:Int)+1),(A'++x::(B'++rest)).map f)) ?_).trans r3
   unfold gL1
   rw [if_pos hlt]
   exact q3
theorem w9l (l:List α) (h:l.length≤1000000) (hp:l.Pairwise fun y x=>y39 p q f x y):∃ r,r.Perm l∧gIns l 0 (l.length:Int) p=some r∧gIns (l.map f) 0 (l.length:Int) q=some (r.map f):=by
 have hw:wr ((0:Int)+1)=1:=by decide
 unfold gIns
 rw [hw]
 cases l with
 | nil =>
  refine ⟨[],List.Perm.refl _,kw ?_,kw ?_⟩
  ·unfold gL1; rw [if_neg (by simp)]
  ·unfold gL1; rw [if_neg (by simp)]
 | cons x l =>
  obtain ⟨hp1,hp2⟩:=List.pairwise_cons.1 hp
  obtain ⟨r,r1,r2,r3⟩:=x6w (x::l).length l [x] (by simp only [List.length_cons,List.length_nil]; omega) h (fun y z hy hz=>by rw [List.mem_singleton.1 hy]; exact hp1 z hz) hp2
  exact ⟨r,r1,r2,r3⟩
end
noncomputable def gPdq (v1:List α) (v2 v3 v4:Int) (p4:α→α→Option Int):Option (List α):=
 iter (fun (s:Int×Int×Int×Bool×Bool)=>if decide ((wr (s.2.1 - s.1))≤12) then ((gIns v1 s.1 s.2.1 p4).bind fun (r12:List α)=>if r12.length=v1.length then (some (.inr r12)) else none) else (if decide (s.2.2.1=0) then none else none)) (v2,v3,v4,true,true)
theorem x7m (l r:List α) (p:α→α→Option Int) (v:Int) (h:l.length≤12) (hr:gIns l 0 (l.length:Int) p=some r) (hl:r.length=l.length):gPdq l 0 (l.length:Int) v p=some r:=by
 refine kw ?_
 have e:wr ((l.length:Int) - 0)=(l.length:Int):=by rw [qc (by omega)]; omega
 show (if decide ((wr ((l.length:Int) - 0))≤12) then _ else _)=_
 rw [e,if_pos (by simp; omega),hr]
 simp only [Option.bind_some]
 rw [if_pos hl]
noncomputable def w9k (n2:Int) (bs a19 b20:Int):Option ((Int×Int) ⊕ (Int ⊕ List α)):=
 if decide (b20≤n2) then none else (Option.map .inr (if decide ((wr (a19+bs)) < n2) then none else (some (.inl (wr (bs * 2))))))
noncomputable def y9w (n2:Int) (r13:List α) (bs:Int):Option (Int ⊕ List α):=
 if decide (bs < n2) then (iter (fun (s:Int×Int)=>w9k n2 bs s.1 s.2) (0,wr (2 * bs))) else (some (.inr r13))
noncomputable def x7l (n2:Int) (p2:α→α→Option Int) (a11:Int) (d12:List α):Option (List α):=
 (gIns d12 a11 n2 p2).bind fun (r13:List α)=>if r13.length=d12.length then (iter (fun (s:Int)=>y9w n2 r13 s) 20) else none
noncomputable def y9x (n2:Int) (p2:α→α→Option Int) (a3 b4:Int) (l5:List α):Option ((Int×Int×List α) ⊕ List α):=
 if decide (b4≤n2) then ((gIns l5 a3 b4 p2).bind fun (r8:List α)=>if r8.length=l5.length then (some (.inl (b4,wr (b4+20),r8))) else none) else (Option.map .inr (x7l n2 p2 a3 l5))
noncomputable def w9j (d1:List α) (n2:Int) (p2:α→α→Option Int):Option (List α):=iter (fun (s:Int×Int×List α)=>y9x n2 p2 s.1 s.2.1 s.2.2) (0,20,d1)
theorem w9i (l r:List α) (p:α→α→Option Int) (h:l.length≤19) (hr:gIns l 0 (l.length:Int) p=some r) (hl:r.length=l.length):w9j l (l.length:Int) p=some r:=by
 refine kw ?_
 show y9x (l.length:Int) p 0 20 l=_
 unfold y9x x7l
 rw [if_neg (by simp; omega),hr]
 simp only [Option.bind_some]
 rw [if_pos hl]
 have:iter (fun (s:Int)=>y9w (l.length:Int) r s) 20=some r:=by
  refine kw ?_
  unfold y9w
  rw [if_neg (by simp; omega)]
 rw [this]; rfl
end
def qOK (q:Bs):Prop:=(spl 38 q).length≤12∨((spl 38 q).filter fun x => !decide (x=[])).length=101
theorem x01 {k:Int} {s:zu} (h:SB k s) (hk:k≤1000000) (m:Nat) (hm:m≤1000) (sep:Bs) (hsep:sep.length≤10) (l:List Bs) (hl:l≠[]∧l.length≤1000) (hB:∀ x,x∈l→x.length≤20) :
  Ok (uo s (m:Int) sep l) fun r=>(∃ ws:List Bs,ws.length=m∧(∀ w,w∈ws→w∈l)∧r.1=Lib.join ws sep∧r.1.length≤30000)∧SB (k+m) r.2:=by
 unfold uo
 refine ok_g (by omega) ?_
 rw [Int.toNat_natCast]
 refine y2n (fun j (q:List Int×Int×List Bs)=>j≤m∧SB (k+(j:Int)) (zu.mk q.1 q.2.1)∧q.2.2.length=j∧∀ x,x∈q.2.2→x∈l) m 0 _ ⟨by omega,h.mono (by omega),by simp,by simp⟩ ?_ ?_
 ·rintro j ⟨c5,c6,l7⟩ _ hj ⟨h0,h1,h2,h3⟩
  simp only at h1 h2 h3 ⊢
  unfold z6v
  refine yi (Qd h1 (by omega) l hl) fun r hr=>ok_g (by omega) (yv ?_)
  refine ⟨by omega,hr.2.mono (by omega),by simp; omega,fun x hx => ?_⟩
  rcases List.mem_append.1 hx with h | h
  ·exact h3 x h
  ·have:x=r.1:=by simpa using h
   rw [this]; exact hr.1
 ·rintro ⟨c5,c6,l7⟩ ⟨h0,h1,h2,h3⟩
  simp only at h1 h2 h3 ⊢
  have hj:=z0x 20 sep l7 fun x hx=>hB x (h3 x hx)
  have hmm:l7.length * (20+sep.length)≤1000 * 30:=Nat.mul_le_mul (by omega) (by omega)
  unfold z6w
  have hJ:ji l7 sep=some (Lib.join l7 sep):=by
   unfold ji
   rw [if_pos ⟨by omega,by omega⟩]
  rw [hJ]
  exact yv ⟨⟨l7,by omega,h3,rfl,by simp only; omega⟩,h1.mono (by omega)⟩
theorem x7y:∀ l:List Bs,(∀ x,x∈l→(38:UInt8) ∉ x)→(l.map (spl 38)).flatten=l
 | [],_=>rfl
 | x::l,h=>by
  rw [List.map_cons,List.flatten_cons,y1w 38 x (h x (by simp)),x7y l fun y hy=>h y (List.mem_cons_of_mem _ hy)]; rfl
theorem x3b (ws:List Bs) (h:∀ x,x∈ws→(38:UInt8) ∉ x) (hn:ws≠[]):spl 38 (Lib.join ws [38])=ws:=by
 rw [y6j 38 ws hn,x7y ws h]
theorem w4d {k:Int} {s:zu} (h:SB k s) (hk:k≤100000):Ok (z2r s) fun r=>(r.1.length≤30000∧qOK r.1)∧SB (k+200) r.2:=by
 unfold z2r z3d
 refine yi (z4k h (by omega) 0 4 (by omega)) fun r hr => ?_
 obtain ⟨m,hm⟩:∃ m:Nat,r.1=(m:Int):=⟨r.1.toNat,by omega⟩
 rw [hm]
 refine yi (x01 hr.2 (by omega) m (by omega) [38] (by simp) _ ⟨by simp,by simp⟩ (by decide)) fun r2 h2=>yi (kh h2.2 (by omega) 12 (by omega)) fun r3 h3=>wq (fun _ => ?_) (fun _=>yv ⟨?_,?_⟩)
 ·refine yi (x01 h3 (by omega) 101 (by omega) [38] (by simp) [[120]] ⟨by simp,by simp⟩ (by decide)) fun r4 h4=>yi (Qd h4.2 (by omega) _ ⟨by simp,by simp⟩) fun r5 h5=>yv ⟨?_,?_⟩
  ·obtain ⟨⟨ws,w1,w2,w3,w4⟩,_⟩:=h4
   have hx:∀ w,w∈ws→w=[120]:=fun w hw=>by simpa using w2 w hw
   have hq4:qOK r4.1:=by
    right
    rw [w3,x3b ws (fun x hx'=>by rw [hx x hx']; decide) (by rintro rfl; simp at w1)]
    have:(ws.filter fun x => !decide (x=[]))=ws:=List.filter_eq_self.2 fun w hw=>by rw [hx w hw]; rfl
    rw [this]; exact w1
   have hm:=h5.1
   simp only [List.mem_cons,List.not_mem_nil,or_false] at hm
   rcases hm with e | e | e | e | e | e <;> rw [e] <;> first | exact ⟨w4,hq4⟩ | exact ⟨by decide,.inl (by decide)⟩
  ·exact h5.2.mono (by omega)
 ·obtain ⟨⟨ws,w1,w2,w3,w4⟩,_⟩:=h2
  refine ⟨w4,.inl ?_⟩
  rw [w3]
  by_cases hn:ws=[]
  ·subst hn; decide
  ·have hno:∀ w:Bs,w∈([[97,61,49],[98,61,50],[97,61],[61,120],[61],[99],[],[97,61,37,52,49,43,37,50,66],[100,61,120,37,50,54,121],[98,61,37,99,51],[97,61,49,61,50],[97,63,98,61,47]]:List Bs)→(38:UInt8) ∉ w:=by decide
   rw [x3b ws (fun x hx=>hno x (w2 x hx)) hn,w1]; omega
 ·exact h3.mono (by omega)
theorem w4h (x:Bs):(prQ x).Name.length≤x.length∧(prQ x).Value.length≤x.length:=by
 obtain ⟨c1,c2⟩:=x0f x
 have hd:∀ s:Bs,((dec true s).getD []).length≤s.length:=fun s=>by
  cases hs:dec true s with
  | none=>simp
  | some d=>exact v0k true s.length s d (Nat.le_refl _) hs
 have h1:=hd (Lib.cut x [61]).1
 have h2:=hd (Lib.cut x [61]).2.1
 unfold prQ
 simp only
 omega
theorem x4e {s:Bs} (h:qOK s) (hl:(prs (spl 38 s)).length≤100):(prs (spl 38 s)).length≤12:=by
 unfold prs at hl ⊢
 rw [List.length_map] at hl ⊢
 rcases h with h | h
 ·exact Nat.le_trans (List.length_filter_le _ _) h
 ·exact absurd (Nat.le_trans (Nat.le_of_eq h.symm) hl) (by decide)
theorem x4d {s:Bs} (hs:s.length≤1000):∀ p,p∈prs (spl 38 s)→p.Name.length≤1000∧p.Value.length≤1000:=fun p hp=>by
 unfold prs at hp
 obtain ⟨x,hx,rfl⟩:=List.mem_map.1 hp
 have h1:=Ww 38 s x (List.mem_filter.1 hx).1
 have h2:=w4h x
 omega
def nilP (p:zp):Bool:=(p.Name == []) && ((p.Value == []) && true)
theorem x0a (l:List zp) (hl:l.length≤1000) (hp:∀ p,p∈l→p.Name.length≤1000∧p.Value.length≤1000) :
  z5h l (fun (a0:zp)=>z86 a0)=some (l.filter fun p => !nilP p) ∧
  z5h l (fun (a0:zp)=>y3e a0)=some (l.filter fun p => !nilP p):=by
 refine ⟨y4p (zp.mk [] []) l nilP (by omega) fun p _=>rfl,y4p (zp.mk [] []) l nilP (by omega) fun p h => ?_⟩
 have:=hp p h
 show y3e p=some (nilP p)
 unfold y3e nilP
 rw [if_pos (by omega)]
 rcases p with ⟨a,b⟩
 cases a <;> cases b <;> rfl
theorem v00:(fun (a0:zp) (a1:zp)=>y8c a0 a1)=fun (a0:zp) (a1:zp)=>jb a0 a1:=rfl
theorem x8l (a b:zp):∃ c,jb a b=some c:=by
 unfold jb z2f
 split
 ·exact ⟨_,rfl⟩
 ·exact ⟨_,rfl⟩
theorem w5h:(List.range 13).all (fun n=>(z87 (IntKind.wrap .u64 (n:Int))).isSome)=true:=by decide +kernel
theorem lenN (n:Nat) (h:n≤12):∃ v,z87 (IntKind.wrap .u64 (n:Int))=some v:=by
 have h2:=List.all_eq_true.1 w5h n (by simp; omega)
 exact Option.isSome_iff_exists.1 h2
theorem w2z (l:List zp) (hl:l.length≤12):∃ r:List zp,r.Perm l∧Zb l (fun (a0:zp) (a1:zp)=>jb a0 a1)=some r ∧
  y7x l (fun (a0:zp) (a1:zp)=>y8c a0 a1)=some r:=by
 obtain ⟨r,r1,r2,r3⟩:=w9l (p:=fun (a0:zp) (a1:zp)=>jb a0 a1) (q:=fun (a0:zp) (a1:zp)=>jb a0 a1) (f:=fun x:zp=>x) l (by omega)
  (List.pairwise_of_forall (fun y x=>by
   obtain ⟨c,hc⟩:=x8l x y
   exact ⟨c,c,hc,hc,Iff.rfl⟩))
 have hlen:=r1.length_eq
 obtain ⟨v,hv⟩:=lenN l.length hl
 refine ⟨r,r1,?_,?_⟩
 ·unfold Zb
  rw [hv]
  simp only [Option.bind_some]
  have e:z8y l 0 (l.length:Int) v (fun (a0:zp) (a1:zp)=>jb a0 a1)=some r:=x7m l r _ v hl r2 hlen
  rw [e]
  simp only [Option.bind_some]
  rw [if_pos hlen]
 ·rw [v00]
  unfold y7x
  have e:x45 l (l.length:Int) (fun (a0:zp) (a1:zp)=>jb a0 a1)=some r:=w9i l r _ (by omega) r2 hlen
  rw [e]
  simp only [Option.bind_some]
  rw [if_pos hlen]
def lwH (h:zg):zg:=zg.mk (lo h.Name) h.Value
def hnP (l:List zg):Prop:=l.length≤1000∧∀ y,y∈l→nmOK y
theorem y36:hnP ([]:List zg):=⟨by simp,by simp⟩
theorem x85 {s:Bs} (h:ascB s=true):ascB (lo s)=true:=by
 unfold ascB at h ⊢
 rw [List.all_eq_true] at h ⊢
 intro c hc
 obtain ⟨d,hd,rfl⟩:=List.mem_map.1 hc
 have h1:=h d hd
 have h2:=y8q d
 simp only [decide_eq_true_eq] at h1 ⊢
 rw [h2]
 split <;> omega
theorem y9i {l:List zg} (hl:l.length≤1000) (h:∀ x,x∈l→nmOK x):hnP (l.map lwH):=by
 refine ⟨by rw [List.length_map]; exact hl,fun y hy => ?_⟩
 obtain ⟨x,hx,rfl⟩:=List.mem_map.1 hy
 obtain ⟨h1,h2⟩:=h x hx
 exact ⟨x85 h1,by show (Lib.toLowerA x.Name).length≤_; unfold Lib.toLowerA; rw [List.length_map]; exact h2⟩
theorem y8p {s:Bs} (h:ascB s=true∧s.length≤100000):jv s=some (lo s):=by
 unfold jv
 rw [if_pos ⟨by omega,h.1⟩]
theorem lowP {ρ:Type} (E:List zg→Option (zw×Int)):∀ (l pre:List zg),(∀ x,x∈l→nmOK x)→rng (fun (k:Nat) (s:(List zg))=>z17 k s) E l.length pre.length (pre++l)=E (pre++l.map lwH)
 | [],pre,_=>rfl
 | x::l,pre,h=>by
  have e1:(pre++x::l)[pre.length]?=some x:=by simp
  have e2:(pre++x::l).set pre.length (zg.mk (lo x.Name) x.Value)=(pre++[lwH x])++l:=by simp [lwH]
  have e3:pre.length+1=(pre++[lwH x]).length:=by simp
  have e4:z17 pre.length (pre++x::l)=some (.inl ((pre++[lwH x])++l)):=by
   unfold z17
   rw [e1]
   simp only [Option.bind_some]
   rw [y8p (h x (by simp))]
   simp only [Option.bind_some]
   rw [e2]
  show (z17 pre.length (pre++x::l)).bind _=_
  rw [e4]
  simp only [Option.bind_some,after]
  rw [e3,lowP (ρ:=ρ) E l (pre++[lwH x]) fun y hy=>h y (List.mem_cons_of_mem _ hy)]
  simp
theorem lowR (E:List zg→Option (zw×Int)):∀ (l:List zg) (k:Nat) (q:List zg),(∀ x,x∈l→nmOK x)→q.length+l.length≤1000000→forL (fun (k:Nat) (x:zg) (s:(List zg))=>y0o k x s) E k l q=E (q++l.map lwH)
 | [],k,q,_,_=>by simp [forL]
 | x::l,k,q,h,hq=>by
  simp only [List.length_cons] at hq
  have e4:y0o k x q=some (.inl (q++[lwH x])):=by
   unfold y0o
   rw [y8p (h x (by simp))]
   simp only [Option.bind_some]
   rw [if_pos (by omega)]; rfl
  show (y0o k x q).bind _=_
  rw [e4]
  simp only [Option.bind_some,after]
  rw [lowR E l (k+1) _ (fun y hy=>h y (List.mem_cons_of_mem _ hy)) (by simp; omega)]
  simp
theorem w32 (r:zw) (h:rqP r) (e1:jk r=some 0):tokB r.Method=true:=by
 obtain ⟨p1,p2,p3,p4,p5,p6⟩:=h
 obtain ⟨b,q,c1,c2,c3⟩:=y33 p2
 unfold jk xy at e1
 rw [z6f,Yq _ (by omega)] at e1
 simp only [Option.bind_some] at e1
 cases hm:momP r.At
 ·rw [hm] at e1; simp at e1
 ·cases ht:tokB r.Method
  ·rw [hm,ht] at e1; simp at e1
  ·rfl
theorem w41 (r:zw) (hr:rqP r) (hq:qOK r.Query):∃ x,Yl r=some x∧x5f r=some x∧hnP x.1.Headers:=by
 obtain ⟨e,e1,e2,e3⟩:=x3z r hr
 obtain ⟨p1,p2,p3,p4,p5,p6⟩:=id hr
 unfold Yl x5f
 rw [e1,e2]
 simp only [Option.bind_some]
 by_cases h0:e=0
 ·subst h0
  obtain ⟨h1,h2,hH⟩:=e3 rfl
  obtain ⟨hvp,hasc⟩:=w89 h1
  have hl:=hvp.1
  have htok:=w32 r hr e1
  obtain ⟨g,g1,g2⟩:=w8x p2
  obtain ⟨b1,b2⟩:=y7g r.Path (by omega)
  obtain ⟨c,c1,c2,c3,c4⟩:=x4c r.Query (by omega)
  rw [g1,g2,b1,b2,c1,c2]
  simp only [Option.bind_some,ne_eq,not_true_eq_false,decide_false,Bool.false_eq_true,if_false]
  by_cases k1:(npF r.Path).2=0
  ·have j1:(decide ¬(npF r.Path).2=0)=false:=by simpa using k1
   simp only [j1,Bool.false_eq_true,if_false]
   by_cases k2:c.2=0
   ·obtain ⟨c5,c6,c7⟩:=c4 k2
    have j2:(decide ¬c.2=0)=false:=by simpa using k2
    simp only [j2,Bool.false_eq_true,if_false]
    have hmem:=x4d c7
    rw [← c5] at hmem
    have hfew:c.1.length≤12:=by rw [c5]; exact x4e hq (by rw [← c5]; exact c6)
    obtain ⟨d1,d2⟩:=x0a c.1 (by omega) hmem
    rw [d1,d2]
    simp only [Option.bind_some]
    obtain ⟨s,s1,s2,s3⟩:=w2z (c.1.filter fun p => !nilP p) (by have:=List.length_filter_le (fun p => !nilP p) c.1; omega)
    rw [s2,s3]
    simp only [Option.bind_some]
    rw [if_pos s1.length_eq,if_pos s1.length_eq]
    have hsl:s.length≤12:=by rw [s1.length_eq]; have:=List.length_filter_le (fun p => !nilP p) c.1; omega
    have hsm:∀ p,p∈s→p.Name.length≤1000∧p.Value.length≤1000:=fun p hp=>hmem p (List.mem_filter.1 (s1.mem_iff.1 hp)).1
    obtain ⟨t,t1,t2⟩:=x1x s (by omega) hsm
    rw [t1,t2]
    simp only [Option.bind_some]
    by_cases k3:t.2=0
    ·have j3:(decide ¬t.2=0)=false:=by simpa using k3
     simp only [j3,Bool.false_eq_true,if_false]
     have hup:z0g r.Method=some (Lib.toUpperA r.Method):=by
      unfold z0g
      rw [if_pos ⟨by omega,Zl htok⟩]
     have hcl:jj r.Headers=some r.Headers:=by unfold jj; rw [if_pos (by omega)]
     rw [hup,hcl]
     simp only [Option.bind_some]
     have hP:=lowP (ρ:=Unit) (fun (s:(List zg))=>z8r r g (npF r.Path) t (Lib.toUpperA r.Method) s) r.Headers [] (y9h hvp)
     have hR:=lowR (fun (s:(List zg))=>x7g r g (npF r.Path) t (Lib.toUpperA r.Method) s) r.Headers 0 [] (y9h hvp) (by simp only [List.length_nil]; omega)
     rw [if_pos (by omega),if_pos (by omega),hR]
     refine ⟨_,hP,rfl,?_⟩
     exact y9i (by omega) (y9h hvp)
    ·have j3:(decide ¬t.2=0)=true:=by simpa using k3
     simp only [j3,if_true]
     exact ⟨_,rfl,rfl,y36⟩
   ·have j2:(decide ¬c.2=0)=true:=by simpa using k2
    simp only [j2,if_true]
    exact ⟨_,rfl,rfl,y36⟩
  ·have j1:(decide ¬(npF r.Path).2=0)=true:=by simpa using k1
   simp only [j1,if_true]
   exact ⟨_,rfl,rfl,y36⟩
 ·rw [if_pos (by simpa using h0),if_pos (by simpa using h0)]
  exact ⟨_,rfl,rfl,y36⟩
def flN:List Bs:=[[110,111,45,115,116,111,114,101],[110,111,45,99,97,99,104,101],[112,114,105,118,97,116,101],[112,117,98,108,105,99],[109,117,115,116,45,114,101,118,97,108,105,100,97,116,101],[111,110,108,121,45,105,102,45,99,97,99,104,101,100]]
def cnN:List Bs:=[[109,97,120,45,97,103,101],[115,45,109,97,120,97,103,101],[115,116,97,108,101,45,119,104,105,108,101,45,114,101,118,97,108,105,100,97,116,101],[115,116,97,108,101,45,105,102,45,101,114,114,111,114],[109,97,120,45,115,116,97,108,101],[109,105,110,45,102,114,101,115,104]]
theorem y30 {ns:List Bs} {nm:Bs} (h:0≤idxB ns nm):∃ j:Nat,idxB ns nm=(j:Int)∧j < ns.length∧nm∈ns:=by
 obtain ⟨_,x,h2,h3⟩:=(z61 (fun x=>decide (nm=x)) ns 0).2 h
 refine ⟨(idxB ns nm).toNat,by omega,?_,?_⟩
 ·have:=(List.getElem?_eq_some_iff.1 h2).1
  exact this
 ·have e:nm=x:=by simpa using h3
  rw [e]; exact List.mem_of_getElem? h2
theorem w90:∀ x,x∈flN→idxB cnN x < 0:=by decide +kernel
theorem x7z:∀ j:Nat,j < 6→at? ([0,1,2,3,4,5]:List Int) (j:Int)=some (j:Int)∧y0v (j:Int)=true:=by decide +kernel
theorem x8k:∀ j:Nat,j < 6→at? ([6,7,8,9,10,11]:List Int) (j:Int)=some (6+(j:Int))∧xn (6+(j:Int))=true:=by decide +kernel
def nOf (v:Bs):Int:=if okN 9 v then valB v else 0
def sOK (v:Bs):Bool:=okN 9 v && !outP (valB v) 0 100000000
theorem x3q (v:Bs) (h:v.length≤1000000):z5z v=some (nOf v,sOK v):=by
 have hk:z2m v 9=some (if okN 9 v then valB v else 0,okN 9 v):=x5n v 9 (by omega) h
 unfold z5z z0r z69 nOf sOK
 rw [hk]
 simp only [Option.bind_some]
 cases okN 9 v
 ·rfl
 ·simp only [if_true,z4n,Option.bind_some,Bool.true_and]
def numC (c:yh) (i n:Int):yh:=if jz c (6+i)=-1∨n < jz c (6+i) then xw c (6+i) n else c
def kj (c:yh) (x:Bs):Bool×yh:=
 let r:=Lib.cut x [61]
 if !tokB r.1 || (r.2.2 && !sOK r.2.1) then (false,c)
 else if 0≤idxB flN (lo r.1) then (!r.2.2,um c (idxB flN (lo r.1)) true)
 else if idxB cnN (lo r.1) < 0 then (true,c)
 else (r.2.2,numC c (idxB cnN (lo r.1)) (nOf r.2.1))
theorem w06 (c:yh) (x:Bs) (h:x.length≤1000000):z5x c x=some (kj c x):=by
 obtain ⟨c1,c2,c3,c4⟩:=y4y x 61
 unfold z5x kj vq
 rw [if_pos (by omega)]
 simp only [Option.bind_some]
 generalize Lib.cut x [61]=r at *
 rw [x3q _ (by omega),Yq _ (by omega)]
 simp only [Option.bind_some]
 cases ht:tokB r.1
 ·rfl
 simp only [Bool.not_true,Bool.false_or]
 cases hs:(r.2.2 && !sOK r.2.1)
 ·simp only [Bool.false_eq_true,if_false]
  have hlow:jv r.1=some (lo r.1):=by
   unfold jv
   rw [if_pos ⟨by omega,Zl ht⟩]
  have hf:y3k=some (flN,[0,1,2,3,4,5]):=rfl
  have hc:z9l=some (cnN,[6,7,8,9,10,11]):=rfl
  rw [hlow,hf,hc]
  simp only [Option.bind_some]
  rw [z3a flN (lo r.1) (by decide),z3a cnN (lo r.1) (by decide)]
  simp only [Option.bind_some]
  by_cases h0:0≤idxB flN (lo r.1)
  ·obtain ⟨j,j1,j2,_⟩:=y30 h0
   obtain ⟨a1,a2⟩:=x7z j j2
   rw [if_pos (by simpa using h0),if_pos h0,j1,a1]
   simp only [Option.bind_some]
   rw [if_pos a2]
  ·rw [if_neg (by simpa using h0),if_neg h0]
   by_cases h1:idxB cnN (lo r.1) < 0
   ·rw [if_pos (by simpa using h1),if_pos h1]
   ·rw [if_neg (by simpa using h1),if_neg h1]
    obtain ⟨j,j1,j2,_⟩:=y30 (show 0≤idxB cnN (lo r.1) by omega)
    obtain ⟨a1,a2⟩:=x8k j j2
    unfold z66 z67 numC
    rw [j1,a1]
    simp only [Option.bind_some,a2,if_true]
    by_cases hg:jz c (6+(j:Int))=-1
    ·rw [if_pos (by simpa using hg),if_pos (Or.inl hg)]
    ·rw [if_neg (by simpa using hg)]
     by_cases hn:nOf r.2.1 < jz c (6+(j:Int))
     ·rw [if_pos (by simpa using hn),if_pos (Or.inr hn)]
     ·rw [if_neg (by simpa using hn),if_neg (by simp [hg,hn])]
 ·simp
abbrev Tst:=Bool×Bool×Int×Int×Bool×Bool×Bool×Bool×Int×Int×Int×Int
def tc (s:Tst):yh:=yh.mk s.1 s.2.1 s.2.2.2.2.1 s.2.2.2.2.2.1 s.2.2.2.2.2.2.1 s.2.2.2.2.2.2.2.1 s.2.2.2.2.2.2.2.2.1 s.2.2.2.2.2.2.2.2.2.1 s.2.2.2.2.2.2.2.2.2.2.1 s.2.2.2.2.2.2.2.2.2.2.2 s.2.2.1 s.2.2.2.1
def ct (c:yh):Tst:=(c.NoStore,c.NoCache,c.MaxStale,c.MinFresh,c.Private,c.Public,c.Must,c.Only,c.MaxAge,c.Shared,c.Stale,c.OnError)
def cOK (c:yh):Prop:=∀ x,xn x=true→-1≤jz c x
theorem w87 (c:yh) (x y:Int) (b:Bool):jz (um c y b) x=jz c x:=by
 unfold um
 (repeat' split) <;> rfl
theorem w86 (c:yh) (x y n:Int):jz (xw c y n) x=n∨jz (xw c y n) x=jz c x:=by
 unfold xw
 (repeat' split) <;> unfold jz <;> (repeat' split) <;> simp
theorem v07 {c:yh} (h:cOK c) (y:Int) (b:Bool):cOK (um c y b):=fun x hx=>by rw [w87]; exact h x hx
theorem v06 {c:yh} (h:cOK c) (y n:Int) (hn:-1≤n):cOK (xw c y n):=fun x hx=>by
 rcases w86 c x y n with e | e
 ·rw [e]; exact hn
 ·rw [e]; exact h x hx
abbrev zzT:yh×Int:=(yh.mk false false false false false false 0 0 0 0 0 0,9)
def stT (c:yh) (x:Bs):Tst ⊕ (yh×Int):=if (kj c x).1 then .inl (ct (kj c x).2) else .inr zzT
theorem y2m (k:Nat) (x:Bs) (c:yh) (h:x.length≤1000000):z07 k x c.NoStore c.NoCache c.MaxStale c.MinFresh c.Private c.Public c.Must c.Only c.MaxAge c.Shared c.Stale c.OnError=some (stT c x):=by
 unfold z07 stT
 show (z5x c x).bind _=_
 rw [w06 c x h]
 simp only [Option.bind_some]
 cases (kj c x).1 <;> rfl
theorem w4c (k:Nat) (x:Bs) (c:yh) (h:x.length≤1000000) (hc:cOK c):y4n k x c.NoStore c.NoCache c.MaxStale c.MinFresh c.Private c.Public c.Must c.Only c.MaxAge c.Shared c.Stale c.OnError=some (stT c x)∧cOK (kj c x).2:=by
 obtain ⟨c1,c2,c3,c4⟩:=y4y x 61
 have hcut0:(Lib.cut x [61]).2.2=false→okN 9 (Lib.cut x [61]).2.1=false:=fun h2=>by
  rcases z04 61 x with h3 | ⟨p,q,h3,h4⟩
  ·rw [z64 61 x h3]; rfl
  ·subst h3; rw [z3t 61 p q h4] at h2; cases h2
 have hd:kj c x=(let r:=Lib.cut x [61]
  if !tokB r.1 || (r.2.2 && !sOK r.2.1) then (false,c)
  else if 0≤idxB flN (lo r.1) then (!r.2.2,um c (idxB flN (lo r.1)) true)
  else if idxB cnN (lo r.1) < 0 then (true,c)
  else (r.2.2,numC c (idxB cnN (lo r.1)) (nOf r.2.1))):=rfl
 unfold y4n stT vq
 rw [if_pos (show x.length≤1000000000 by omega),hd]
 simp only [Option.bind_some]
 generalize Lib.cut x [61]=r at *
 obtain ⟨w,w1,w2,w3⟩:=x4b r.2.1 9 (by omega) (by omega)
 have w1':z0s r.2.1 9=some (w,okN 9 r.2.1):=w1
 rw [w1',z71 _ (by omega)]
 simp only [Option.bind_some]
 have hT:z3c c.NoStore c.NoCache c.MaxStale c.MinFresh c.Private c.Public c.Must c.Only c.MaxAge c.Shared c.Stale c.OnError r (w,okN 9 r.2.1) true=some (.inr zzT):=rfl
 cases ht:tokB r.1
 ·simp only [Bool.not_false,if_true,Bool.true_or,Bool.false_eq_true,if_false]
  exact ⟨hT,hc⟩
 simp only [Bool.not_true,Bool.false_eq_true,if_false,Bool.false_or]
 have hlow:jv r.1=some (lo r.1):=by
  unfold jv
  rw [if_pos ⟨by omega,Zl ht⟩]
 have hfn:x5a=some flN:=rfl
 have hfo:x49=some [0,1,2,3,4,5]:=rfl
 have hcn:x5c=some cnN:=rfl
 have hco:y78=some [6,7,8,9,10,11]:=rfl
 have hJ5n:∀ d:yh,idxB cnN (lo r.1) < 0→y0p r (w,okN 9 r.2.1) (lo r.1) d.NoStore d.NoCache d.Private d.Public d.Must d.Only d.MaxAge d.Shared d.Stale d.OnError d.MaxStale d.MinFresh=some (.inl (ct d)):=fun d hneg=>by
  unfold y0p y0q
  rw [hcn]
  simp only [Option.bind_some]
  rw [z3a cnN (lo r.1) (by decide)]
  simp only [Option.bind_some]
  rw [if_neg (by simp; omega)]
  rfl
 have key:r.2.2=false∨(okN 9 r.2.1=true∧outP w 0 100000000=false)→z3c c.NoStore c.NoCache c.MaxStale c.MinFresh c.Private c.Public c.Must c.Only c.MaxAge c.Shared c.Stale c.OnError r (w,okN 9 r.2.1) false=some (if (if 0≤idxB flN (lo r.1) then (!r.2.2,um c (idxB flN (lo r.1)) true) else if idxB cnN (lo r.1) < 0 then (true,c) else (r.2.2,numC c (idxB cnN (lo r.1)) (nOf r.2.1))).1=true then .inl (ct (if 0≤idxB flN (lo r.1) then (!r.2.2,um c (idxB flN (lo r.1)) true) else if idxB cnN (lo r.1) < 0 then (true,c) else (r.2.2,numC c (idxB cnN (lo r.1)) (nOf r.2.1))).2) else .inr zzT)∧cOK (if 0≤idxB flN (lo r.1) then (!r.2.2,um c (idxB flN (lo r.1)) true) else if idxB cnN (lo r.1) < 0 then (true,c) else (r.2.2,numC c (idxB cnN (lo r.1)) (nOf r.2.1))).2:=fun hh=>by
  unfold z3c
  rw [hlow,hfn]
  simp only [Bool.false_eq_true,if_false,Option.bind_some]
  rw [z3a flN (lo r.1) (by decide)]
  simp only [Option.bind_some]
  by_cases h0:0≤idxB flN (lo r.1)
  ·obtain ⟨j,j1,j2,j3⟩:=y30 h0
   obtain ⟨a1,a2⟩:=x7z j j2
   have hneg:=w90 _ j3
   rw [if_pos (by simpa using h0),if_pos h0,hfo]
   simp only [Option.bind_some]
   rw [j1,a1]
   simp only [Option.bind_some]
   rw [if_pos a2]
   refine ⟨?_,v07 hc _ _⟩
   cases r.2.2
   ·simp only [Bool.false_eq_true,if_false,Bool.not_false,if_true]
    exact hJ5n (um c (j:Int) true) hneg
   ·simp
  ·rw [if_neg (by simpa using h0),if_neg h0]
   by_cases h1:idxB cnN (lo r.1) < 0
   ·rw [if_pos h1]
    exact ⟨hJ5n c h1,hc⟩
   ·rw [if_neg h1]
    obtain ⟨j,j1,j2,_⟩:=y30 (show 0≤idxB cnN (lo r.1) by omega)
    obtain ⟨a1,a2⟩:=x8k j j2
    have hcd:∀ n,-1≤n→cOK (numC c (j:Int) n):=fun n hn=>by
     unfold numC
     split
     ·exact v06 hc _ n hn
     ·exact hc
    unfold y0p
    rw [hcn]
    simp only [Option.bind_some]
    rw [z3a cnN (lo r.1) (by decide)]
    simp only [Option.bind_some]
    rw [if_pos (by simp; omega)]
    rcases Bool.eq_false_or_eq_true r.2.2 with h2 | h2
    ·rcases hh with h3 | ⟨h3,h4⟩
     ·rw [h3] at h2; cases h2
     ·have hw:=w2 h3
      have hn:nOf r.2.1=w:=by unfold nOf; rw [h3,hw]; rfl
      have hw0:0≤w:=by rw [z8m] at h4; simp at h4; omega
      rw [h2,hco,j1,hn]
      simp only [Bool.not_true,Bool.false_eq_true,if_false,Option.bind_some,if_true]
      rw [a1]
      simp only [Option.bind_some]
      rw [if_pos a2]
      refine ⟨?_,hcd w (by omega)⟩
      have hge:=hc _ a2
      unfold numC y0q
      show (if (decide (jz c (6+(j:Int)) < 0) || decide (w < jz c (6+(j:Int))))=true then _ else _)=_
      by_cases hg:jz c (6+(j:Int))=-1∨w < jz c (6+(j:Int))
      ·rw [if_pos (by simp only [Bool.or_eq_true,decide_eq_true_eq]; omega),if_pos hg]; rfl
      ·rw [if_neg (by simp only [Bool.or_eq_true,decide_eq_true_eq]; omega),if_neg hg]; rfl
    ·rw [h2,j1]
     have hn:nOf r.2.1=0:=by unfold nOf; rw [hcut0 h2]; rfl
     rw [hn]
     exact ⟨rfl,hcd 0 (by omega)⟩
 cases h2:r.2.2
 ·rw [h2] at key
  simp only [Bool.false_and,Bool.false_eq_true,if_false]
  exact key (.inl rfl)
 ·rw [h2] at key
  simp only [if_true,Bool.true_and]
  cases h3:okN 9 r.2.1
  ·have hs:sOK r.2.1=false:=by unfold sOK; rw [h3]; rfl
   rw [h3] at hT
   rw [hs]
   simp only [Bool.not_false,if_true,Bool.false_eq_true,if_false]
   exact ⟨hT,hc⟩
  ·have hw:=w2 h3
   rw [z99]
   simp only [Bool.not_true,Bool.false_eq_true,if_false,Option.bind_some,Bool.not_not]
   have hs:sOK r.2.1 = !outP w 0 100000000:=by unfold sOK; rw [h3,hw]; rfl
   rw [hs,Bool.not_not]
   rw [h3] at key hT
   cases h4:outP w 0 100000000
   ·simp only [Bool.false_eq_true,if_false]
    exact key (.inr ⟨rfl,h4⟩)
   ·simp only [if_true,Bool.false_eq_true,if_false]
    exact ⟨hT,hc⟩
abbrev ccL:Bs:=[99,97,99,104,101,45,99,111,110,116,114,111,108]
abbrev c0:Tst:=(false,false,-1,-1,false,false,false,false,-1,-1,-1,-1)
theorem y2l (l:List zg):km l=z08 l false false (-1) (-1) false false false false (-1) (-1) (-1) (-1):=rfl
theorem w4b (l:List zg):y8d l=y9u l false false (-1) (-1) false false false false (-1) (-1) (-1) (-1):=rfl
theorem v1a:cOK (tc c0):=fun x hx=>by
 unfold xn at hx
 simp only [Bool.or_eq_true,decide_eq_true_eq] at hx
 rcases hx with ((((rfl | rfl) | rfl) | rfl) | rfl) | rfl <;> decide
theorem z7i {l:List zg} (h0:hdsE l=0) (n:Bs):vlP (yo n l):=by
 have hcnt:=xl h0
 have hok:=z3b h0
 refine ⟨?_,fun v hv => ?_⟩
 ·unfold yo
  rw [List.length_map]
  have:=(List.filter_sublist (p:=nmB n) (l:=l)).length_le
  omega
 ·unfold yo at hv
  obtain ⟨x,hx,rfl⟩:=List.mem_map.1 hv
  exact Wd (hok x (List.mem_filter.1 hx).1).2
theorem y2h (V:List Bs) (h:vlP V):(ptsB V).length≤3000000:=by
 have h1:=x4h V h.2
 have h2:=y1r (V.map (spl 44)).flatten
 have h3:V.length * 2001≤1000 * 2001:=Nat.mul_le_mul h.1 (by omega)
 unfold ptsB
 omega
theorem w4s (l:List zg) (h0:hdsE l=0) (hl:l.length≤1000) (h2:∀ x,x∈l→nmOK x):∃ r,km l=some r∧y8d l=some r:=by
 have hv:=ki l ccL hl h2 ⟨rfl,by decide⟩
 have hV:=z7i h0 ccL
 have hp1:=z4m _ hV
 have hp2:=x4k _ hV
 have hpl:=y2h _ hV
 rw [y2l,w4b]
 unfold z08 y9u
 show ∃ r,(ve l ccL).bind _=some r∧(Ze l ccL).bind _=some r
 rw [hv.1,hv.2]
 simp only [Option.bind_some]
 rw [hp1,hp2]
 simp only [Option.bind_some]
 rw [if_pos (by omega),if_pos (by omega)]
 obtain ⟨r,r1,r2,_⟩:=x7u (body:=fun (k:Nat) (x:Bs) (s:Tst)=>z07 k x s.1 s.2.1 s.2.2.1 s.2.2.2.1 s.2.2.2.2.1 s.2.2.2.2.2.1 s.2.2.2.2.2.2.1 s.2.2.2.2.2.2.2.1 s.2.2.2.2.2.2.2.2.1 s.2.2.2.2.2.2.2.2.2.1 s.2.2.2.2.2.2.2.2.2.2.1 s.2.2.2.2.2.2.2.2.2.2.2)
  (body':=fun (k:Nat) (x:Bs) (s:Tst)=>y4n k x s.1 s.2.1 s.2.2.1 s.2.2.2.1 s.2.2.2.2.1 s.2.2.2.2.2.1 s.2.2.2.2.2.2.1 s.2.2.2.2.2.2.2.1 s.2.2.2.2.2.2.2.2.1 s.2.2.2.2.2.2.2.2.2.1 s.2.2.2.2.2.2.2.2.2.2.1 s.2.2.2.2.2.2.2.2.2.2.2)
  (fin:=fun (s:Tst)=>y41 s.1 s.2.1 s.2.2.1 s.2.2.2.1 s.2.2.2.2.1 s.2.2.2.2.2.1 s.2.2.2.2.2.2.1 s.2.2.2.2.2.2.2.1 s.2.2.2.2.2.2.2.2.1 s.2.2.2.2.2.2.2.2.2.1 s.2.2.2.2.2.2.2.2.2.2.1 s.2.2.2.2.2.2.2.2.2.2.2)
  (fin':=fun (s:Tst)=>x7k s.1 s.2.1 s.2.2.1 s.2.2.2.1 s.2.2.2.2.1 s.2.2.2.2.2.1 s.2.2.2.2.2.2.1 s.2.2.2.2.2.2.2.1 s.2.2.2.2.2.2.2.2.1 s.2.2.2.2.2.2.2.2.2.1 s.2.2.2.2.2.2.2.2.2.2.1 s.2.2.2.2.2.2.2.2.2.2.2) (R:=fun _=>True)
  (fun _ s=>cOK (tc s)) (ptsB (yo ccL l)) 0 c0 v1a (fun j x s _ hx hs=>by
   obtain ⟨v,hv1,hv2,_⟩:=y2g (List.mem_of_getElem? hx)
   have hvl:=hV.2 v hv1
   have a:=y2m j x (tc s) (by omega)
   obtain ⟨b,b2⟩:=w4c j x (tc s) (by omega) hs
   refine ⟨stT (tc s) x,a,b,?_⟩
   unfold stT
   cases (kj (tc s) x).1
   ·exact trivial
   ·exact b2) (fun s _=>⟨_,rfl,rfl,trivial⟩)
 exact ⟨r,r1,r2⟩
theorem w6a:y8f=some true:=by
 have hcr:kl (yb.mk 200 [zg.mk ccL [109,97,120,45,97,103,101,61,50]] [])=some 0:=by
  have h1:=(Qz [zg.mk ccL [109,97,120,45,97,103,101,61,50]] ⟨by simp,fun h hh=>by rw [List.mem_singleton.1 hh]; exact ⟨by decide,by decide⟩⟩).1
  have h2:hdsE [zg.mk ccL [109,97,120,45,97,103,101,61,50]]=0:=by decide +kernel
  rw [h2] at h1
  unfold kl
  rw [z4n]
  simp only [Option.bind_some]
  rw [h1]
  rfl
 have hnm:∀ x,x∈[zg.mk ccL [109,97,120,45,97,103,101,61,50]]→nmOK x:=fun x hx=>by rw [List.mem_singleton.1 hx]; exact ⟨by decide +kernel,by decide⟩
 have hv:=(ki [zg.mk ccL [109,97,120,45,97,103,101,61,50]] ccL (by simp) hnm ⟨rfl,by decide⟩).1
 have hv2:=(ki [zg.mk ccL [109,97,120,45,97,103,101,61,50]] [118,97,114,121] (by simp) hnm ⟨rfl,by decide⟩).1
 have e1:yo ccL [zg.mk ccL [109,97,120,45,97,103,101,61,50]]=[[109,97,120,45,97,103,101,61,50]]:=by decide +kernel
 have e2:yo [118,97,114,121] [zg.mk ccL [109,97,120,45,97,103,101,61,50]]=[]:=by decide +kernel
 rw [e1] at hv
 rw [e2] at hv2
 have p1:=z4m [[109,97,120,45,97,103,101,61,50]] ⟨by simp,by simp⟩
 have p2:=z4m [] ⟨by simp,by simp⟩
 have e3:ptsB [[109,97,120,45,97,103,101,61,50]]=[[109,97,120,45,97,103,101,61,50]]:=by decide +kernel
 rw [e3] at p1
 have hpar:km [zg.mk ccL [109,97,120,45,97,103,101,61,50]]=some ((kj (tc c0) [109,97,120,45,97,103,101,61,50]).2,0):=by
  rw [y2l]
  unfold z08
  show (ve _ ccL).bind _=_
  rw [hv]
  simp only [Option.bind_some]
  rw [p1]
  simp only [Option.bind_some]
  rw [if_pos (by simp)]
  have a:=y2m 0 [109,97,120,45,97,103,101,61,50] (tc c0) (by simp)
  show (z07 0 [109,97,120,45,97,103,101,61,50] false false (-1) (-1) false false false false (-1) (-1) (-1) (-1)).bind _=_
  have a':z07 0 [109,97,120,45,97,103,101,61,50] false false (-1) (-1) false false false false (-1) (-1) (-1) (-1)=some (stT (tc c0) [109,97,120,45,97,103,101,61,50]):=a
  rw [a']
  have e4:(kj (tc c0) [109,97,120,45,97,103,101,61,50]).1=true:=by decide +kernel
  unfold stT
  rw [e4]
  rfl
 have hvy:xk (yb.mk 200 [zg.mk ccL [109,97,120,45,97,103,101,61,50]] [])=some ([],false,0):=by
  unfold xk
  show (ve [zg.mk ccL [109,97,120,45,97,103,101,61,50]] [118,97,114,121]).bind _=_
  rw [hv2]
  simp only [Option.bind_some]
  rw [p2]
  have e0:ptsB []=[]:=rfl
  rw [e0]
  simp only [Option.bind_some]
  rw [if_pos (by simp)]
  show z06 []=_
  have hi:Qp [] [42]=some (-1):=rfl
  have hs:Zt []=some []:=by
   unfold Zt
   rw [if_pos (by simp)]
   simp
  unfold z06 Qq Qt jj
  rw [hi]
  simp only [Option.bind_some]
  rw [if_neg (by simp),if_pos (by simp)]
  simp only [Option.bind_some]
  rw [hs]
  rfl
 have f1:(kj (tc c0) [109,97,120,45,97,103,101,61,50]).2.NoCache=false:=by decide +kernel
 have f2:(kj (tc c0) [109,97,120,45,97,103,101,61,50]).2.Shared=-1:=by decide +kernel
 have f3:(kj (tc c0) [109,97,120,45,97,103,101,61,50]).2.MaxAge=2:=by decide +kernel
 have hlt:Yp (kj (tc c0) [109,97,120,45,97,103,101,61,50]).2=some 2000:=by
  unfold Yp
  rw [f1,f2,f3]
  rfl
 unfold y8f z9n
 rw [hcr]
 simp only [Option.bind_some]
 rw [if_neg (by simp)]
 show ((km [zg.mk ccL [109,97,120,45,97,103,101,61,50]]).bind _).bind _=_
 rw [hpar]
 simp only [Option.bind_some]
 rw [if_neg (by simp)]
 rw [hvy]
 simp only [Option.bind_some]
 rw [if_neg (by simp),hlt]
 rfl
theorem y02 {k:Int} {s:zu} (h:SB k s) (hk:k≤1000000) (m:Nat) (hm:m≤100) (sep:Bs) (hsep:sep.length≤10) (l:List Bs) (hl:l≠[]∧l.length≤1000) (hB:∀ x,x∈l→x.length≤100) :
  Ok (uo s (m:Int) sep l) fun r=>r.1.length≤30000∧SB (k+m) r.2:=by
 unfold uo
 refine ok_g (by omega) ?_
 rw [Int.toNat_natCast]
 refine y2n (fun j (q:List Int×Int×List Bs)=>j≤m∧SB (k+(j:Int)) (zu.mk q.1 q.2.1)∧q.2.2.length≤j∧∀ x,x∈q.2.2→x.length≤100) m 0 _ ⟨by omega,h.mono (by omega),by simp,by simp⟩ ?_ ?_
 ·rintro j ⟨c5,c6,l7⟩ _ hj ⟨h0,h1,h2,h3⟩
  simp only at h1 h2 h3 ⊢
  unfold z6v
  refine yi (Qd h1 (by omega) l hl) fun r hr=>ok_g (by omega) (yv ?_)
  refine ⟨by omega,hr.2.mono (by omega),by simp; omega,fun x hx => ?_⟩
  rcases List.mem_append.1 hx with h | h
  ·exact h3 x h
  ·have:x=r.1:=by simpa using h
   rw [this]; exact hB _ hr.1
 ·rintro ⟨c5,c6,l7⟩ ⟨h0,h1,h2,h3⟩
  simp only at h1 h2 h3 ⊢
  have hj:=z0x 100 sep l7 h3
  have hmm:l7.length * (100+sep.length)≤100 * 110:=Nat.mul_le_mul (by omega) (by omega)
  unfold z6w
  have hJ:ji l7 sep=some (Lib.join l7 sep):=by
   unfold ji
   rw [if_pos ⟨by omega,by omega⟩]
  rw [hJ]
  exact yv ⟨by simp only; omega,h1.mono (by omega)⟩
theorem v0r {k:Int} {s:zu} (h:SB k s) (hk:k≤100000):Ok (z9f s) fun r=>r.1.length≤30000∧SB (k+20) r.2:=by
 have hJ:∀ (t:Bs) (c:List Int) (a:Int),t.length≤30000→SB (k+15) (zu.mk c a)→Ok (z3f t c a) fun r=>r.1.length≤30000∧SB (k+20) r.2:=by
  intro t c a ht hs
  unfold z3f z6y
  refine yi (kh hs (by omega) 20 (by omega)) fun r hr=>wq (fun _ => ?_) (fun _=>yv ⟨ht,hr.mono (by omega)⟩)
  exact yi (xg hr (by omega) 100 _ ⟨by simp,by simp⟩ (by decide)) fun r2 h2=>yv ⟨by have:=h2.1; simp only; omega,h2.2.mono (by omega)⟩
 unfold z9f
 refine yi (z4k h (by omega) 0 3 (by omega)) fun r hr => ?_
 obtain ⟨m,hm⟩:∃ m:Nat,r.1=(m:Int):=⟨r.1.toNat,by omega⟩
 rw [hm]
 refine yi (y02 hr.2 (by omega) m (by omega) [44,32] (by simp) _ ⟨by simp,by simp⟩ (by decide)) fun r2 h2=>yi (kh h2.2 (by omega) 10 (by omega)) fun r3 h3=>wq (fun _ => ?_) (fun _=>hJ _ _ _ h2.1 (h3.mono (by omega)))
 exact yi (y02 h3 (by omega) 2 (by omega) [44] (by simp) _ ⟨by simp,by simp⟩ (by decide)) fun r4 h4=>hJ _ _ _ h4.1 (h4.2.mono (by omega))
theorem v1o {k:Int} {s:zu} (h:SB k s) (hk:k≤100000):Ok (z9j s) fun r=>r.1.length≤30000∧SB (k+20) r.2:=by
 unfold z9j z6z
 refine yi (z4k h (by omega) 1 2 (by omega)) fun r hr => ?_
 obtain ⟨m,hm⟩:∃ m:Nat,r.1=(m:Int):=⟨r.1.toNat,by omega⟩
 rw [hm]
 refine yi (y02 hr.2 (by omega) m (by omega) [44,32] (by simp) _ ⟨by simp,by simp⟩ (by decide)) fun r2 h2=>yi (kh h2.2 (by omega) 20 (by omega)) fun r3 h3=>wq (fun _ => ?_) (fun _=>yv ⟨h2.1,h3.mono (by omega)⟩)
 exact yi (xg h3 (by omega) 100 _ ⟨by simp,by simp⟩ (by decide)) fun r4 h4=>yv ⟨by have:=h4.1; simp only; omega,h4.2.mono (by omega)⟩
def haP (n:Nat) (l:List zg):Prop:=l.length≤n∧∀ y,y∈l→hdA y
theorem y38 (n:Nat):haP n ([]:List zg):=⟨by simp,by simp⟩
theorem jy {n m:Nat} {l:List zg} (h:haP n l) (hm:n≤m):haP m l:=⟨by have:=h.1; omega,h.2⟩
theorem y0c {n:Nat} {l:List zg} (h:haP n l) (a b:Bs) (h1:ascB a=true∧a.length≤3000) (h2:b.length≤30000):haP (n+1) (l++[zg.mk a b]):=
 ⟨by have:=h.1; simp; omega,w82 h.2 (w83 h1 h2)⟩
theorem x68 {n:Nat} {l:List zg} (h:haP n l) (hn:n≤1000):hdsP l:=⟨by have:=h.1; omega,fun y hy=>(h.2 y hy).1⟩
def rqA (r:zw):Prop:=rqP r∧haP 100 r.Headers
end Go.Proofs.YtahcnngcpjkpgabGreatDoor
