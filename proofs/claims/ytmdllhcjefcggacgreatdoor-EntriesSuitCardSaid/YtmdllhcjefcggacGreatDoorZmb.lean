/- Plain: the law EntriesSuit is true for every list of numbers. -/
import Derived.Test.YtmdllhcjefcggacGreatDoorEyZm
namespace Go.Proofs.YtmdllhcjefcggacGreatDoor
set_option linter.unusedVariables false
set_option maxRecDepth 20000
theorem y3h (l:List Int) (h:l.length≤1000):Wq l=some (feI (fun _ x=>x) 0 l):=by
 unfold Wq
 rw [if_pos (by omega),y3e l 0 (e:=fun _ x=>x) (fun j x _ _=>by unfold y3b; by_cases h:x=0 <;> simp [h])]
 by_cases h0:feI (fun _ x=>x) 0 l=0
 ·rw [h0,if_neg (by simp)]; rfl
 ·rw [if_pos h0]
theorem y7c {α:Type} (e:α→Int) (x:α):∀ (l:List α) (k:Nat),feI (fun _ y=>e y) k (l++[x])=if feI (fun _ y=>e y) k l≠0 then feI (fun _ y=>e y) k l else e x
 | [],k=>by
  simp only [List.nil_append,feI]
  by_cases h:e x=0 <;> simp [h]
 | y::l,k=>by
  simp only [List.cons_append,feI,y7c e x l (k+1)]
  by_cases h:e y=0 <;> simp [h]
theorem y7d {α:Type} (e:α→Int):∀ (l:List α) (k k':Nat),feI (fun _ y=>e y) k l=feI (fun _ x=>x) k' (l.map e)
 | [],_,_=>rfl
 | y::l,k,k'=>by simp only [List.map_cons,feI,y7d e l (k+1) (k'+1)]
theorem x3v {α:Type} (e:α→Int) (l:List α) (k k':Nat):feI (fun _ y=>e y) k l=feI (fun _ y=>e y) k' l:=by rw [y7d e l k 0,y7d e l k' 0]
theorem y7b {α:Type} {e:α→Int}:∀ {l:List α} {k:Nat},feI (fun _ y=>e y) k l=0→∀ y,y∈l→e y=0
 | [],_,_,y,hy=>by simp at hy
 | x::l,k,h,y,hy=>by
  simp only [feI] at h
  by_cases hx:e x=0
  ·rw [if_neg (by simpa using hx)] at h
   rcases List.mem_cons.1 hy with rfl | hy
   ·exact hx
   ·exact y7b h y hy
  ·rw [if_pos hx] at h; exact absurd h hx
theorem y67 {α σ ρ:Type} {body:Nat→α→σ→Option (σ ⊕ ρ)} {fin:σ→Option ρ} {e:α→Int} (g:Int→ρ) (up:σ→α→σ) (I:σ→List α→Prop):∀ (l:List α) (k:Nat) (s:σ),I s l→(∀ j x l' s,I s (x::l')→body j x s=if e x≠0 then some (.inr (g (e x))) else some (.inl (up s x)))→(∀ x l' s,I s (x::l')→x∈l→I (up s x) l')→forL body fin k l s=if feI (fun _ y=>e y) 0 l≠0 then some (g (feI (fun _ y=>e y) 0 l)) else fin (l.foldl up s)
 | [],k,s,_,_,_=>by simp [forL,feI]
 | x::l,k,s,hI,h,hu=>by
  show (body k x s).bind _=_
  rw [h k x l s hI]
  by_cases hp:e x=0
  ·rw [if_neg (by simpa using hp)]
   simp only [Option.bind_some,after]
   rw [y67 g up I l (k+1) (up s x) (hu x l s hI (by simp)) h (fun y l' s' hs hm=>hu y l' s' hs (List.mem_cons_of_mem _ hm))]
   simp only [feI,hp,ne_eq,not_true_eq_false,if_false,List.foldl_cons]
   rw [x3v e l (0+1) 0]
  ·rw [if_pos hp]
   simp [feI,hp,after]
def rqG (r:zw):Prop:=rqP r∧qOK r.Query
noncomputable def nrF (r:zw):zw×Int:=(xk r).getD (zw.mk 0 [] [] [] [] [] [] [],0)
theorem z0s {r:zw} (h:rqG r):xk r=some (nrF r)∧Zu r=some (nrF r)∧hnP (nrF r).1.Headers:=by
 obtain ⟨x,x1,x2,x3⟩:=x91 r h.1 h.2
 have e:nrF r=x:=by unfold nrF; rw [x1]; rfl
 rw [e]; exact ⟨x1,x2,x3⟩
theorem x8s {r:zw} (h:rqS r):rqG r:=⟨h.1.1,h.2⟩
theorem en_G {e:yc} (h:enP e):rqG e.Request:=⟨h.1.1.1,h.1.2⟩
noncomputable def enF (e:yc):Int:=(Wp e).getD 0
theorem z6g {e:yc} (h:enP e):Zy e=some (enF e)∧Wp e=some (enF e) ∧
  (enF e=0→hdsE e.Response.Headers=0∧momP e.At=true∧(vyL (ptsB (qx vyN e.Response.Headers))).2.2=0):=by
 obtain ⟨f,f1,f2,f3⟩:=w33 e h
 have e1:enF e=f:=by unfold enF; rw [f2]; rfl
 rw [e1]; exact ⟨f1,f2,fun h0=>(f3 h0).2⟩
def suE (e:yc) (x y:zw):Bool:=suB (vyL (ptsB (qx vyN e.Response.Headers))) x y
theorem y9d {e:yc} {r:zw} (he:enP e) (hr:rqG r) (h0:enF e=0) :
  Wl e r=some (if (nrF e.Request).2≠0 then (false,(nrF e.Request).2) else if (nrF r).2≠0 then (false,(nrF r).2) else (suE e (nrF e.Request).1 (nrF r).1,0)) ∧
  Wr (nrF e.Request).1 e.Response (nrF r).1=some (suE e (nrF e.Request).1 (nrF r).1):=by
 obtain ⟨_,_,h3⟩:=z6g he
 obtain ⟨a1,a2,a3⟩:=h3 h0
 obtain ⟨x1,x2,x3⟩:=z0s (en_G he)
 obtain ⟨y1,y2,y3⟩:=z0s hr
 exact x6s e r he a1 a3 x2 y2 x3 y3
theorem ageY {e:yc} (he:enP e) (at_:Int) (r16 r25:Int) (h16:enF e=r16) (h25:(if r16≠0 then r16 else if momP at_=false then 1 else if at_ < e.At then 7 else 0)=r25) :
  ∃ w,z8z e at_=some (w,r25)∧(r25=0→z4p e at_=some w)∧(r25≠0→w=0):=by
 obtain ⟨f1,f2,f3⟩:=z6g he
 unfold z8z y16
 rw [f1,z48,h16]
 simp only [Option.bind_some]
 by_cases z:r16=0
 ·rw [if_neg (show ¬ decide (r16≠0)=true by simpa using z)]
  rw [if_neg (show ¬ r16≠0 by simpa using z)] at h25
  obtain ⟨a1,a2,a3⟩:=f3 (h16.trans z)
  cases hm:momP at_
  ·rw [hm,if_pos rfl] at h25
   subst h25
   exact ⟨0,rfl,fun h=>(by cases h),fun _=>rfl⟩
  ·rw [hm,if_neg (by simp)] at h25
   simp only [Bool.not_true,Bool.false_eq_true,if_false]
   by_cases hl:at_ < e.At
   ·rw [if_pos hl] at h25
    subst h25
    rw [if_pos (show decide (at_ < e.At)=true by simpa using hl)]
    exact ⟨0,rfl,fun h=>(by cases h),fun _=>rfl⟩
   ·rw [if_neg hl] at h25
    subst h25
    rw [if_neg (show ¬ decide (at_ < e.At)=true by simpa using hl)]
    have m1:0≤at_∧at_≤345686399999:=by unfold momP at hm; simpa using hm
    have m2:0≤e.At∧e.At≤345686399999:=by unfold momP at a2; simpa using a2
    obtain ⟨t1,t2⟩:=w5a e at_ a1 (y6y he.2.1) (by omega)
    simp only [Option.bind_some,ne_eq,not_true_eq_false,decide_false,Bool.false_eq_true,if_false]
    rw [t1]
    exact ⟨_,rfl,fun _=>t2,fun h=>h.elim⟩
 ·rw [if_pos (show decide (r16≠0)=true by simpa using z)]
  rw [if_pos z] at h25
  subst h25
  exact ⟨0,rfl,fun h=>absurd h z,fun _=>rfl⟩
theorem x6t {e:yc} (he:enP e) {r:zw} (hr:rqG r) (f g:Int) (hf:enF e=f) (hg:kq r=some g) :
  ∃ w b,z8w e r=some (w,b)∧((if f≠0 then f else g)=0→Wl e r=some (w,b))∧((if f≠0 then f else g)≠0→w=false∧b=if f≠0 then f else g):=by
 obtain ⟨f1,f2,f3⟩:=z6g he
 unfold z8w y17
 rw [f1,hf,hg]
 simp only [Option.bind_some]
 by_cases z:f=0
 ·rw [if_neg (show ¬ decide (f≠0)=true by simpa using z),if_neg (show ¬ f≠0 by simpa using z)]
  simp only [Option.bind_some]
  by_cases z2:g=0
  ·rw [if_neg (show ¬ decide (g≠0)=true by simpa using z2)]
   obtain ⟨x1,x2,x3⟩:=z0s (en_G he)
   obtain ⟨y1,y2,y3⟩:=z0s hr
   obtain ⟨s1,s2⟩:=y9d he hr (hf.trans z)
   rw [x90 x1 y1,s1]
   simp only [Option.bind_some]
   by_cases kx:(nrF e.Request).2=0
   ·rw [if_pos kx,if_pos kx,if_neg (show ¬ (nrF e.Request).2≠0 by simpa using kx)]
    by_cases ky:(nrF r).2=0
    ·rw [if_neg (show ¬ decide ((nrF r).2≠0)=true by simpa using ky),if_neg (show ¬ (nrF r).2≠0 by simpa using ky),s2]
     exact ⟨_,_,rfl,fun _=>rfl,fun h=>absurd z2 h⟩
    ·rw [if_pos (show decide ((nrF r).2≠0)=true by simpa using ky),if_pos ky]
     exact ⟨_,_,rfl,fun _=>rfl,fun h=>absurd z2 h⟩
   ·rw [if_neg kx,if_neg kx,if_pos (show decide ((nrF e.Request).2≠0)=true by simpa using kx),if_pos kx]
    exact ⟨_,_,rfl,fun _=>rfl,fun h=>absurd z2 h⟩
  ·rw [if_pos (show decide (g≠0)=true by simpa using z2)]
   exact ⟨_,_,rfl,fun h=>absurd h z2,fun _=>⟨rfl,rfl⟩⟩
 ·rw [if_pos (show decide (f≠0)=true by simpa using z),if_pos z]
  simp only [Option.bind_some]
  rw [if_pos (show decide (f≠0)=true by simpa using z)]
  exact ⟨_,_,rfl,fun h=>absurd h z,fun _=>⟨rfl,rfl⟩⟩
theorem y3x (n:Int):wr n=if 9223372036854775808≤n % 18446744073709551616 then n % 18446744073709551616 - 18446744073709551616 else n % 18446744073709551616:=by
 show (if (true && decide (n % 18446744073709551616≥9223372036854775808))=true then n % 18446744073709551616 - 18446744073709551616 else n % 18446744073709551616)=_
 by_cases h:9223372036854775808≤n % 18446744073709551616
 ·rw [if_pos (by simpa using h),if_pos h]
 ·rw [if_neg (by simpa using h),if_neg h]
theorem x48 (n:Int):∃ k:Int,wr n=n+k * 18446744073709551616:=by
 rw [y3x]
 split
 ·exact ⟨-(n / 18446744073709551616) - 1,by omega⟩
 ·exact ⟨-(n / 18446744073709551616),by omega⟩
theorem x46 (n k:Int):wr (n+k * 18446744073709551616)=wr n:=by
 rw [y3x,y3x]
 have e:(n+k * 18446744073709551616) % 18446744073709551616=n % 18446744073709551616:=by omega
 rw [e]
theorem x49 (a b:Int):wr (wr a+b)=wr (a+b):=by
 obtain ⟨k,hk⟩:=x48 a
 rw [hk,show a+k * 18446744073709551616+b=a+b+k * 18446744073709551616 by omega,x46]
theorem x71 (e:yc) (h:e.Response.Headers.length≤1000):∃ n,z8r e=some n∧z8f e=some n:=by
 unfold z8r z8f
 rw [if_pos (by omega),if_pos (by omega)]
 have e1:(wr ((wr ((wr ((wr ((e.Request.Host.length:Int)+(e.Request.Path.length:Int)))+(e.Request.Query.length:Int)))+(e.Response.Body.length:Int)))+100))=(wr ((wr ((wr ((wr (100+(e.Request.Host.length:Int)))+(e.Request.Path.length:Int)))+(e.Request.Query.length:Int)))+(e.Response.Body.length:Int))):=by
  simp only [x49]
  have e2:∀ a b:Int,a=b→wr a=wr b:=fun a b h=>by rw [h]
  exact e2 _ _ (by omega)
 rw [e1]
 obtain ⟨r,r1,r2,_⟩:=y69 (body:=fun (k:Nat) (x:zt) (s:Int)=>y3o k x s) (body':=fun (k:Nat) (x:zt) (s:Int)=>y25 k x s) (fin:=fun (s:Int)=>y3p s) (fin':=fun (s:Int)=>y26 s) (R:=fun _=>True) (fun _ _=>True) e.Response.Headers 0 (wr ((wr ((wr ((wr (100+(e.Request.Host.length:Int)))+(e.Request.Path.length:Int)))+(e.Request.Query.length:Int)))+(e.Response.Body.length:Int))) trivial (fun j x s _ _ _=>⟨_,rfl,rfl,trivial⟩) (fun s _=>⟨_,rfl,rfl,trivial⟩)
 exact ⟨r,r1,r2⟩
theorem x3p:∀ (l:List yc) (q:List zw),l.foldl (fun q x=>q++[(nrF x.Request).1]) q=q++l.map fun x=>(nrF x.Request).1
 | [],q=>by simp
 | x::l,q=>by rw [List.foldl_cons,x3p l]; simp
theorem rngR (ls:List yc) (body:Nat→Unit→Option (Unit ⊕ (Int×Int))) (fin:Unit→Option (Int×Int)) (hb:∀ j x,ls[j]?=some x→body j ()=if (nrF x.Request).2≠0 then some (.inr (0,(nrF x.Request).2)) else some (.inl ())) :
  ∀ (rest pre:List yc),ls=pre++rest→rng body fin rest.length pre.length ()=if feI (fun _ y=>(nrF y.Request).2) 0 rest≠0 then some (0,feI (fun _ y=>(nrF y.Request).2) 0 rest) else fin ()
 | [],pre,_=>by simp [rng,feI]
 | x::l,pre,h=>by
  have e1:ls[pre.length]?=some x:=by rw [h]; simp
  show (body pre.length ()).bind _=_
  rw [hb _ x e1]
  by_cases hp:(nrF x.Request).2=0
  ·rw [if_neg (by simpa using hp)]
   simp only [Option.bind_some,after]
   have:=rngR ls body fin hb l (pre++[x]) (by rw [h]; simp)
   rw [show (pre++[x]).length=pre.length+1 by simp] at this
   rw [this]
   simp only [feI,hp,ne_eq,not_true_eq_false,if_false]
   rw [x3v (fun y:yc=>(nrF y.Request).2) l (0+1) 0]
  ·rw [if_pos hp]
   simp [feI,hp,after]
theorem w3u (l:List yc) (hl:l.length≤1000) (hE:∀ e,e∈l→enP e) {r:zw} (hr:rqG r) (g:Int) (hg:kq r=some g) :
  ∃ w,z8y l r=some w∧(feI (fun _ e=>enF e) 0 l≠0→w=(0,feI (fun _ e=>enF e) 0 l))∧(feI (fun _ e=>enF e) 0 l=0→g≠0→w=(0,g))∧(feI (fun _ e=>enF e) 0 l=0→g=0→z4o l r=some w):=by
 unfold z8y
 rw [if_neg (show ¬ decide (1000 < (l.length:Int))=true by simp; omega),if_pos (by omega)]
 have b1:forL (fun (k:Nat) (x:yc) (s:Unit)=>z9u k x) (fun (s:Unit)=>z6q l r) 0 l ()=if feI (fun _ e=>enF e) 0 l≠0 then some (0,feI (fun _ e=>enF e) 0 l) else z6q l r:=by
  refine y67 (fun n=>((0:Int),n)) (fun s _=>s) (fun _ l'=>∀ e,e∈l'→enP e) l 0 () hE (fun j x l' s h => ?_) (fun x l' s h _ e he=>h e (List.mem_cons_of_mem _ he))
  obtain ⟨f1,_,_⟩:=z6g (h x (by simp))
  unfold z9u
  rw [f1]
  simp only [Option.bind_some]
  by_cases hz:enF x=0
  ·rw [if_neg (by simpa using hz),if_neg (by simpa using hz)]
  ·rw [if_pos (by simpa using hz),if_pos hz]
 rw [b1]
 by_cases z:feI (fun _ e=>enF e) 0 l=0
 ·rw [if_neg (show ¬ feI (fun _ e=>enF e) 0 l≠0 by simpa using z)]
  have hz:=y7b z
  unfold z6q
  rw [hg]
  simp only [Option.bind_some]
  by_cases z2:g=0
  ·rw [if_neg (show ¬ decide (g≠0)=true by simpa using z2),if_pos (by omega)]
   have b2:forL (fun (k:Nat) (x:yc) (s:(List zw))=>z2u k x s) (fun (s:(List zw))=>z2w l r s) 0 l []=if feI (fun _ e=>(nrF (yc.Request e)).2) 0 l≠0 then some (0,feI (fun _ e=>(nrF (yc.Request e)).2) 0 l) else z2w l r (l.map fun x=>(nrF x.Request).1):=by
    have:=y67 (body:=fun (k:Nat) (x:yc) (s:(List zw))=>z2u k x s) (fin:=fun (s:(List zw))=>z2w l r s) (e:=fun e=>(nrF (yc.Request e)).2) (fun n=>((0:Int),n)) (fun q x=>q++[(nrF (yc.Request x)).1]) (fun q l'=>q.length+l'.length≤1000∧∀ e,e∈l'→enP e) l 0 [] ⟨by simp; omega,hE⟩ (fun j x l' s h=>by
     obtain ⟨h1,h2⟩:=h
     simp only [List.length_cons] at h1
     obtain ⟨x1,_,_⟩:=z0s (en_G (h2 x (by simp)))
     show z2u j x s=_
     unfold z2u
     rw [x1]
     simp only [Option.bind_some]
     by_cases hz:(nrF x.Request).2=0
     ·rw [if_neg (show ¬ decide ((nrF x.Request).2≠0)=true by simpa using hz),if_neg (show ¬ (nrF x.Request).2≠0 by simpa using hz),if_pos (by omega)]
     ·rw [if_pos (by simpa using hz),if_pos hz]) (fun x l' s h _=>⟨by have:=h.1; simp at this ⊢; omega,fun e he=>h.2 e (List.mem_cons_of_mem _ he)⟩)
    rw [x3p] at this
    exact this
   rw [b2]
   have hcl:ui l=some l:=by unfold ui; rw [if_pos (by omega)]
   obtain ⟨y1,y2,y3⟩:=z0s hr
   have b3:z4o l r=if feI (fun _ e=>(nrF (yc.Request e)).2) 0 l≠0 then some (0,feI (fun _ e=>(nrF (yc.Request e)).2) 0 l) else if (nrF r).2≠0 then some (0,(nrF r).2) else z5y l r:=by
    unfold z4o
    rw [hcl]
    simp only [Option.bind_some]
    rw [if_pos (by omega),if_pos (by simp; omega)]
    have:=rngR (l++[yc.mk r (yu.mk 0 [] []) 0 [] 0]) (fun (k:Nat) (s:Unit)=>z5w r l k) (fun (s:Unit)=>z5y l r) (fun j x hx=>by
     show z5w r l j=_
     have hG:rqG x.Request:=by
      rcases List.mem_append.1 (List.mem_of_getElem? hx) with h | h
      ·exact en_G (hE x h)
      ·rw [List.mem_singleton.1 h]; exact hr
     obtain ⟨_,x2,_⟩:=z0s hG
     unfold z5w
     rw [hx]
     simp only [Option.bind_some]
     rw [x2]
     simp only [Option.bind_some]
     by_cases hz:(nrF x.Request).2=0
     ·rw [if_neg (by simpa using hz),if_neg (by simpa using hz)]
     ·rw [if_pos (by simpa using hz),if_pos hz]) (l++[yc.mk r (yu.mk 0 [] []) 0 [] 0]) [] rfl
    rw [y7c (fun e:yc=>(nrF e.Request).2)] at this
    refine Eq.trans this ?_
    by_cases hz:feI (fun _ e=>(nrF (yc.Request e)).2) 0 l=0
    ·rw [if_neg (show ¬ feI (fun _ e=>(nrF (yc.Request e)).2) 0 l≠0 by simpa using hz),if_neg (show ¬ feI (fun _ e=>(nrF (yc.Request e)).2) 0 l≠0 by simpa using hz)]
    ·rw [if_pos (show feI (fun _ e=>(nrF (yc.Request e)).2) 0 l≠0 from hz),if_pos hz,if_pos hz]
   rw [b3]
   by_cases k1:feI (fun _ e=>(nrF (yc.Request e)).2) 0 l=0
   ·rw [if_neg (show ¬ feI (fun _ e=>(nrF (yc.Request e)).2) 0 l≠0 by simpa using k1),if_neg (show ¬ feI (fun _ e=>(nrF (yc.Request e)).2) 0 l≠0 by simpa using k1)]
    have hn:=y7b k1
    unfold z2w z5y
    rw [y1]
    simp only [Option.bind_some]
    by_cases k2:(nrF r).2=0
    ·rw [if_neg (show ¬ decide ((nrF r).2≠0)=true by simpa using k2),if_neg (show ¬ (nrF r).2≠0 by simpa using k2),if_pos (by omega),if_pos (by omega)]
     obtain ⟨w,w1,w2,_⟩:=y69 (body:=fun (k:Nat) (x:yc) (s:Int)=>z6o l (l.map fun x=>(nrF x.Request).1) (nrF r) k x s) (body':=fun (k:Nat) (x:yc) (s:Int)=>z5v l r k x s) (fin:=fun (s:Int)=>z9v s) (fin':=fun (s:Int)=>z9p s) (R:=fun _=>True)
      (fun j v=>-1≤v∧v < (j:Int)) l 0 (-1) ⟨by omega,by omega⟩ (fun j x s _ hx hs=>by
       simp only [Nat.sub_zero] at hx
       have hm:=List.mem_of_getElem? hx
       have hlt:=Ws hx
       obtain ⟨s1,s2⟩:=y9d (hE x hm) hr (hz x hm)
       have o1:(l.map fun x=>(nrF x.Request).1)[j]?=some (nrF x.Request).1:=by rw [List.getElem?_map,hx]; rfl
       show ∃ q,z6o l (l.map fun x=>(nrF x.Request).1) (nrF r) j x s=some q∧z5v l r j x s=some q∧_
       unfold z6o z5v z2v z15 z6p z5x
       rw [o1,s1]
       simp only [Option.bind_some]
       rw [s2,if_neg (show ¬ (nrF x.Request).2≠0 by simpa using hn x hm),if_neg (show ¬ (nrF r).2≠0 by simpa using k2)]
       simp only [Option.bind_some]
       cases suE x (nrF x.Request).1 (nrF r).1
       ·exact ⟨_,rfl,rfl,by show -1≤s∧s < ((j+1:Nat):Int); omega⟩
       ·simp only [if_true]
        by_cases hv:s < 0
        ·rw [if_pos (show decide (s < 0)=true by simpa using hv)]
         exact ⟨_,rfl,rfl,by show -1≤(j:Int)∧(j:Int) < ((j+1:Nat):Int); omega⟩
        ·rw [if_neg (show ¬ decide (s < 0)=true by simpa using hv)]
         obtain ⟨n,rfl⟩:∃ n:Nat,s=(n:Int):=⟨s.toNat,by omega⟩
         obtain ⟨y,hy⟩:∃ y,l[n]?=some y:=⟨_,List.getElem?_eq_getElem (by omega)⟩
         rw [z2y,hy]
         simp only [Option.bind_some]
         cases decide (y.At≤x.At)
         ·exact ⟨_,rfl,rfl,by show -1≤(n:Int)∧(n:Int) < ((j+1:Nat):Int); omega⟩
         ·exact ⟨_,rfl,rfl,by show -1≤(j:Int)∧(j:Int) < ((j+1:Nat):Int); omega⟩) (fun s _=>by
       unfold z9v z9p
       by_cases hv:s < 0
       ·rw [if_pos (show decide (s < 0)=true by simpa using hv)]; exact ⟨_,rfl,rfl,trivial⟩
       ·rw [if_neg (show ¬ decide (s < 0)=true by simpa using hv)]; exact ⟨_,rfl,rfl,trivial⟩)
     exact ⟨w,w1,fun h=>absurd z h,fun _ h=>absurd z2 h,fun _ _=>w2⟩
    ·rw [if_pos (show decide ((nrF r).2≠0)=true by simpa using k2),if_pos k2]
     exact ⟨_,rfl,fun h=>absurd z h,fun _ h=>absurd z2 h,fun _ _=>rfl⟩
   ·rw [if_pos k1,if_pos k1]
    exact ⟨_,rfl,fun h=>absurd z h,fun _ h=>absurd z2 h,fun _ _=>rfl⟩
  ·rw [if_pos (show decide (g≠0)=true by simpa using z2)]
   exact ⟨_,rfl,fun h=>absurd z h,fun _ _=>rfl,fun _ h=>absurd h z2⟩
 ·rw [if_pos z]
  exact ⟨_,rfl,fun _=>rfl,fun h=>absurd h z,fun h=>absurd h z⟩
theorem y76 (b:Bool) (e:Int):z4s b e=some (if b then e else 0):=by unfold z4s; cases b <;> rfl
theorem y7a (a b:Int):feI (fun _ x=>x) 0 [a,b]=if a≠0 then a else b:=by
 simp only [feI]
 by_cases h:a=0 <;> by_cases h2:b=0 <;> simp [h,h2]
theorem w34 (L:List Int):y15 L=some true:=by
 refine x0z ?_
 unfold y15
 refine yf (x3z (k:=0) ⟨by simp,by simp⟩ (by omega)) fun r2 h2=>yf (z7h h2.2 (by omega) _ ⟨by simp,by simp⟩) fun r4 h4=>yf (x4n h4.2 (by omega) r4.1) fun r6 h6=>yf (z7h h6.2 (by omega) _ ⟨by simp,by simp⟩) fun r8 h8 => ?_
 have he:=h2.1
 have hr:=x8s h6.1
 obtain ⟨g,g1,g2,g3⟩:=y48 r6.1 hr.1
 obtain ⟨f1,f2,f3⟩:=z6g he
 obtain ⟨a,a1,a2,a3⟩:=ageY he r8.1 (enF r2.1) _ rfl rfl
 obtain ⟨w,b,s1,s2,s3⟩:=x6t he hr (enF r2.1) g rfl g1
 obtain ⟨n,n1,n2⟩:=x71 r2.1 (by have:=he.2.1.1; omega)
 have hS:z8x r2.1=some (if enF r2.1≠0 then (0,enF r2.1) else (n,0)):=by
  unfold z8x
  rw [f1]
  simp only [Option.bind_some]
  by_cases z:enF r2.1=0
  ·rw [if_neg (by simpa using z),if_neg (by simpa using z),n1]; rfl
  ·rw [if_pos (by simpa using z),if_pos z]
 have hM:z8p r8.1=some (if !momP r8.1 then 1 else 0):=by
  unfold z8p
  rw [y1l]
  simp only [Option.bind_some]
  rw [y76]; rfl
 have h25:feI (fun _ x=>x) 0 [enF r2.1,if !momP r8.1 then 1 else 0,if decide (r8.1 < r2.1.At) then 7 else 0]=(if enF r2.1≠0 then enF r2.1 else if momP r8.1=false then 1 else if r8.1 < r2.1.At then 7 else 0):=by
  simp only [feI]
  by_cases z:enF r2.1=0
  ·cases hm:momP r8.1
   ·simp [z]
   ·by_cases hl:r8.1 < r2.1.At <;> simp [z,hl]
  ·simp [z]
 rw [a1,s1,hS,f2,f1,hM,g2]
 simp only [Option.bind_some]
 rw [if_neg (show ¬ decide (enF r2.1≠enF r2.1)=true by simp),y76]
 simp only [Option.bind_some]
 rw [y3h _ (by simp),y3h _ (by simp),h25,y7a]
 simp only [Option.bind_some]
 generalize (if enF r2.1≠0 then enF r2.1 else if momP r8.1=false then 1 else if r8.1 < r2.1.At then 7 else 0)=r25 at *
 generalize (if enF r2.1≠0 then enF r2.1 else g)=r29 at *
 have hJ5:∀ q:Int×Int,Ok (z2n q q.2 q.1) (· = true):=fun q=>by
  unfold z2n z2m
  simp only [decide_true,if_true]
  rw [w0w]
  exact qg rfl
 have hJ3:∀ v43:Int,(if enF r2.1≠0 then ((0:Int),enF r2.1) else (n,0))=(v43,enF r2.1)→Ok (z2o r6 r8 (a,r25) (w,b) (v43,enF r2.1) (enF r2.1) r25 a b w v43) (· = true):=by
  intro v43 _
  unfold z2o
  rw [if_neg (by simp)]
  refine yf (z0q h8.2 (by omega) 0 4 (by omega)) fun r45 h45=>ok_g (by omega) ?_
  obtain ⟨m,hm⟩:∃ m:Nat,r45.1=(m:Int):=⟨r45.1.toNat,by omega⟩
  rw [hm,Int.toNat_natCast]
  refine z7j (fun j (q:Int×List Int×Int×List yc)=>j≤m∧SB (1100+620 * (j:Int)) (zr.mk q.2.1 q.2.2.1)∧q.2.2.2.length≤j∧(∀ e,e∈q.2.2.2→enP e)∧q.1=feI (fun _ e=>enF e) 0 q.2.2.2) m 0 _ ⟨by omega,h45.2.mono (by omega),by simp,by simp,rfl⟩ ?_ ?_
  ·rintro j ⟨v47,c48,c49,l50⟩ _ hj ⟨h0,h1,h3,h5,h7⟩
   simp only at h1 h3 h5 h7 ⊢
   unfold y3c
   refine yf (x3z h1 (by omega)) fun r75 h75=>ok_g (by omega) ?_
   obtain ⟨_,y2,_⟩:=z6g h75.1
   rw [y2]
   simp only [Option.bind_some]
   rw [y3h _ (by simp),y7a]
   simp only [Option.bind_some]
   refine qg ⟨by omega,h75.2.mono (by omega),by simp; omega,fun e he => ?_,?_⟩
   ·rcases List.mem_append.1 he with h | h
    ·exact h5 e h
    ·rw [List.mem_singleton.1 h]; exact h75.1
   ·show _=feI (fun _ e=>enF e) 0 (l50++[r75.1])
    rw [y7c enF,h7]
  ·rintro ⟨v47,c48,c49,l50⟩ ⟨h0,h1,h3,h5,h7⟩
   simp only at h1 h3 h5 h7 ⊢
   obtain ⟨q,q1,qa,qb,qc⟩:=w3u l50 (by omega) h5 hr g g1
   unfold y3d
   rw [q1,g2]
   simp only [Option.bind_some]
   rw [y3h _ (by simp),y7a,h7]
   simp only [Option.bind_some]
   by_cases z:feI (fun _ e=>enF e) 0 l50=0
   ·rw [if_neg (show ¬ feI (fun _ e=>enF e) 0 l50≠0 by simpa using z)]
    by_cases z2:g=0
    ·rw [if_pos (show decide (g=0)=true by simpa using z2),qc z z2]
     exact hJ5 q
    ·rw [if_neg (show ¬ decide (g=0)=true by simpa using z2),qb z z2]
     exact hJ5 (0,g)
   ·rw [if_pos z,if_neg (show ¬ decide (feI (fun _ e=>enF e) 0 l50=0)=true by simpa using z),qa z]
    exact hJ5 (0,feI (fun _ e=>enF e) 0 l50)
 have hJ2:Ok (z2p r2 r6 r8 (a,r25) (w,b) (if enF r2.1≠0 then (0,enF r2.1) else (n,0)) (enF r2.1) r25 a b w) (· = true):=by
  unfold z2p
  by_cases z:enF r2.1=0
  ·rw [if_neg (show ¬ enF r2.1≠0 by simpa using z),if_pos (show decide (enF r2.1=0)=true by simpa using z),n2]
   simp only [Option.bind_some]
   have:=hJ3 n (by rw [if_neg (show ¬ enF r2.1≠0 by simpa using z),z])
   rw [z] at this ⊢
   exact this
  ·rw [if_pos z,if_neg (show ¬ decide (enF r2.1=0)=true by simpa using z)]
   exact hJ3 0 (by rw [if_pos z])
 have hJ1:Ok (z2q r2 r6 r8 (a,r25) (w,b) (if enF r2.1≠0 then (0,enF r2.1) else (n,0)) (enF r2.1) r25 r29 a) (· = true):=by
  unfold z2q
  by_cases z:r29=0
  ·rw [if_pos (show decide (r29=0)=true by simpa using z),s2 z]
   exact hJ2
  ·rw [if_neg (show ¬ decide (r29=0)=true by simpa using z)]
   obtain ⟨t1,t2⟩:=s3 z
   rw [t1,t2] at hJ2
   rw [t1,t2]
   exact hJ2
 by_cases z:r25=0
 ·rw [if_pos (show decide (r25=0)=true by simpa using z),a2 z]
  exact hJ1
 ·rw [if_neg (show ¬ decide (r25=0)=true by simpa using z)]
  rw [a3 z] at hJ1 ⊢
  exact hJ1
end Go.Proofs.YtmdllhcjefcggacGreatDoor
