import Derived.Test.YtbpedjpoikmbjaaGreatDoorUsXk
import Derived.Test.YtbpedjpoikmbjaaGreatDoorBk
import Derived.Test.YtbpedjpoikmbjaaGreatDoorEgXk
namespace Go.Proofs.YtbpedjpoikmbjaaGreatDoor
set_option linter.unusedVariables false
set_option linter.unusedSimpArgs false
set_option linter.unusedSectionVars false
set_option maxRecDepth 20000
def onB (s:ya):Bool:=decide (s.State=2) || decide (s.State=3)
def z0:ya:=ya.mk 0 [] 0 0
def a00:qu:=qu.mk z0 wz
def acF (c:zw) (fr:Int) (o:qu) (x:zj):qu:=qu.mk (if onB o.last_ && decide (fr < x.At) then o.last_ else o.on_) (fol c o.last_ x).1
def acR (c:zw) (fr:Int) (a p:Bs):qu->List zj->qu
 | o,[]=>o
 | o,x::l=>if x.App=a/\x.Product=p then acR c fr a p (acF c fr o x) l else acR c fr a p o l
def lsR (c:zw) (a p:Bs):ya->List zj->ya
 | s,[]=>s
 | s,x::l=>if x.App=a/\x.Product=p then lsR c a p (fol c s x).1 l else lsR c a p s l
def pdR (c:zw) (fr:Int) (a p:Bs):ya->List zj->Option ya
 | s,[]=>if onB s=true then some s else none
 | s,x::l=>if x.App=a/\x.Product=p then (if (fol c s x).2=true then (match pdR c fr a p (fol c s x).1 l with|some z=>some z|none=>if (onB s && decide (fr < x.At))=true then some s else none) else pdR c fr a p s l) else pdR c fr a p s l
theorem x1v (c:zw) (fr:Int) (a p:Bs):∀ (l:List zj) (o:qu),(acR c fr a p o l).last_=lsR c a p o.last_ l
 | [],o=>rfl
 | x::l,o=>by
  simp only [acR,lsR];split
  ·exact x1v c fr a p l _
  ·exact x1v c fr a p l _
section
variable {c:zw} {apps:List zn}
theorem y83 (a p:Bs):∀ (l:List zj) (st:Bs->Bs->ya),(∀ x,x∈l->EOk c apps x)->(∀ a p,SI (st a p))->runS c st l a p=lsR c a p (st a p) l
 | [],st,_,_=>rfl
 | x::l,st,hx,hs=>by
  obtain⟨f1,f2⟩:=z3y (hs x.App x.Product) (hx x (by simp));have hx':∀ y,y∈l->EOk c apps y:=λy hy=>hx y (by simp [hy]);simp only [runS,lsR];cases hf:(fol c (st x.App x.Product) x).2
  ·simp only [Bool.false_eq_true,if_false];rw [y83 a p l st hx' hs]
   by_cases hp:x.App=a/\x.Product=p
   ·rw [if_pos hp];obtain⟨rfl,rfl⟩:=hp;rw [f2 hf]
   ·rw [if_neg hp]
  ·simp only [if_true];rw [y83 a p l _ hx' (x8y hs f1)]
   by_cases hp:x.App=a/\x.Product=p
   ·rw [if_pos hp];obtain⟨rfl,rfl⟩:=hp;unfold upS;rw [if_pos ⟨rfl,rfl⟩]
   ·rw [if_neg hp];unfold upS;rw [if_neg (λh=>hp ⟨h.1.symm,h.2.symm⟩)]
theorem x4y (fr:Int) (a p:Bs):∀ (l:List zj) (s:ya),onB s=true->(∀ x,x∈l->fr < x.At)->∃ z,pdR c fr a p s l=some z
 | [],s,h,_=>⟨s,by rw [pdR,if_pos h]⟩
 | x::l,s,h,hx=>by
  have h1:=hx x (by simp);have ih:=x4y fr a p l s h λy hy=>hx y (by simp [hy]);simp only [pdR];split
  ·split
   ·cases pdR c fr a p (fol c s x).1 l with
    | some z=>exact⟨z,rfl⟩
    | none=>exact⟨s,by simp [h,h1]⟩
   ·exact ih
  ·exact ih
theorem x1u (fr:Int) (a p:Bs):∀ (l:List zj) (o:qu),l.Pairwise (λx y=>orE x y < 0)->(∀ x,x∈l->EOk c apps x)->SI o.last_->(vg (acR c fr a p o l)).on_=(pdR c fr a p o.last_ l).getD o.on_
 | [],o,_,_,_=>by
  simp only [acR,pdR];unfold vg;show (if onB o.last_=true then _ else _:qu).on_=_;split <;> rfl
 | x::l,o,hr,hx,hs=>by
  obtain⟨r1,r2⟩:=List.pairwise_cons.1 hr;obtain⟨f1,f2⟩:=z3y hs (hx x (by simp));have hx':∀ y,y∈l->EOk c apps y:=λy hy=>hx y (by simp [hy]);simp only [acR,pdR]
  by_cases hp:x.App=a/\x.Product=p
  ·rw [if_pos hp,if_pos hp,x1u fr a p l _ r2 hx' f1];cases hf:(fol c o.last_ x).2
   ·have e:=f2 hf;simp only [Bool.false_eq_true,if_false];unfold acF;simp only [e];cases hc:(onB o.last_ && decide (fr < x.At))
    ·rfl
    ·simp only [Bool.and_eq_true,decide_eq_true_eq] at hc
     obtain⟨z,hz⟩:=x4y (c:=c) fr a p l o.last_ hc.1 λy hy=>by
      have:=z9a (r1 y hy);omega
     rw [hz];rfl
   ·simp only [if_true];unfold acF;simp only
    cases pdR c fr a p (fol c o.last_ x).1 l with
    | some z=>rfl
    | none =>
     simp only [Option.getD_none];cases hc:(onB o.last_ && decide (fr < x.At)) <;> simp
  ·rw [if_neg hp,if_neg hp,x1u fr a p l o r2 hx' hs]
theorem y3i {P:ya->Prop} (hP:∀ s x,P s->EOk c apps x->P (fol c s x).1) (fr:Int) (a p:Bs):∀ (l:List zj) (s z:ya),P s->(∀ x,x∈l->EOk c apps x)->pdR c fr a p s l=some z->P z/\onB z=true
 | [],s,z,h,_,hz=>by
  simp only [pdR] at hz;split at hz
  ·cases hz;exact⟨h,by assumption⟩
  ·cases hz
 | x::l,s,z,h,hx,hz=>by
  have hx':∀ y,y∈l->EOk c apps y:=λy hy=>hx y (by simp [hy]);have h2:=hP s x h (hx x (by simp));simp only [pdR] at hz;split at hz
  ·split at hz
   ·cases hq:pdR c fr a p (fol c s x).1 l with
    | some y =>
     rw [hq] at hz;cases hz;exact y3i hP fr a p l _ _ h2 hx' hq
    | none =>
     rw [hq] at hz;simp only at hz;split at hz
     ·rename_i hc;cases hz;simp only [Bool.and_eq_true] at hc;exact⟨h,hc.1⟩
     ·cases hz
   ·exact y3i hP fr a p l _ _ h hx' hz
  ·exact y3i hP fr a p l _ _ h hx' hz
theorem y4e {B:Int->Prop} (a p:Bs):∀ (l:List zj) (s:ya),B s.Since->SI s->(∀ x,x∈l->EOk c apps x/\B x.At)->B (lsR c a p s l).Since
 | [],s,h,_,_=>h
 | x::l,s,h,hs,hx=>by
  have hx':∀ y,y∈l->EOk c apps y/\B y.At:=λy hy=>hx y (by simp [hy]);obtain⟨x1,x2⟩:=hx x (by simp);obtain⟨f1,f2⟩:=z3y hs x1;simp only [lsR];split
  ·refine y4e a p l _ ?_ f1 hx';cases hf:(fol c s x).2
   ·rw [f2 hf];exact h
   ·rw [(y5e hf).1];exact x2
  ·exact y4e a p l _ h hs hx'
theorem y3h (fr:Int) (a p:Bs):∀ (l:List zj) (s z:ya),l.Pairwise (λx y=>orE x y < 0)->SI s->(∀ x,x∈l->EOk c apps x)->pdR c fr a p s l=some z->onB (lsR c a p s l)=true∨fr < (lsR c a p s l).Since
 | [],s,z,_,_,_,hz=>by
  simp only [pdR] at hz;split at hz
  ·left;assumption
  ·cases hz
 | x::l,s,z,hr,hs,hx,hz=>by
  obtain⟨r1,r2⟩:=List.pairwise_cons.1 hr;have hx':∀ y,y∈l->EOk c apps y:=λy hy=>hx y (by simp [hy]);obtain⟨f1,f2⟩:=z3y hs (hx x (by simp));simp only [pdR] at hz;simp only [lsR]
  by_cases hp:x.App=a/\x.Product=p
  ·rw [if_pos hp] at hz ⊢;cases hf:(fol c s x).2
   ·rw [hf] at hz;rw [f2 hf];exact y3h fr a p l s z r2 hs hx' (by simpa using hz)
   ·rw [hf,if_pos rfl] at hz
    cases hq:pdR c fr a p (fol c s x).1 l with
    | some y=>exact y3h fr a p l _ _ r2 f1 hx' hq
    | none =>
     rw [hq] at hz;simp only at hz;split at hz
     ·rename_i hc;simp only [Bool.and_eq_true,decide_eq_true_eq] at hc;right;refine y4e (B:=λt=>fr < t) (apps:=apps) a p l _ (by rw [(y5e hf).1];exact hc.2) f1 λy hy=>⟨hx' y hy,?_⟩
      have:=z9a (r1 y hy);omega
     ·cases hz
  ·rw [if_neg hp] at hz ⊢;exact y3h fr a p l s z r2 hs hx' hz
end
def endB:Option ya->Int
 | some y=>y.Since
 | none=>345686400000
def okB (fr to_:Int) (s:ya) (nx:Option ya):Bool:=((onB s && decide (s.Since < to_)) && decide (fr < endB nx)) && decide (s.Since < endB nx)
def bF (fr to_:Int):List ya->Option ya
 | []=>none
 | s::l=>match bF fr to_ l with|some z=>some z|none=>if okB fr to_ s l.head?=true then some s else none
theorem x7u {fr to_:Int} {z:ya}:∀ (n:Nat) (zs:List ya),bF fr to_ (zs.drop n)=some z->bF fr to_ zs=some z
 | 0,zs,h=>by simpa using h
 | n+1,[],h=>by simpa using h
 | n+1,s::zs,h=>by
  have h1:=x7u n zs (by simpa using h);simp only [bF,h1]
theorem x7r {m:Int} {fr to_:Int} (h1:wr (m*2592000000)=fr) (h2:wr ((wr (m+1))*2592000000)=to_) (zs:List ya) (ri:List Int) (r8:ya):∀ n,n<=zs.length->bF fr to_ (zs.drop n)=none ->
  back (λ(k:Nat) (x:ya) (s:Unit)=>z6l m (zs,ri) r8 k x) (λ(s:Unit)=>y4m r8) zs n ()=some (match bF fr to_ zs with|some z=>(z,r8,true)|none=>(z0,r8,false))
 | 0,_,h=>by
  rw [List.drop_zero] at h;rw [h];rfl
 | n+1,hn,h=>by
  obtain⟨z,hz⟩:∃ z,zs[n]?=some z:=⟨_,List.getElem?_eq_getElem (by omega)⟩
  have hd:zs.drop n=z::zs.drop (n+1):=by
   rw [List.drop_eq_getElem_cons (by omega)];rw [List.getElem?_eq_getElem (by omega)] at hz;rw [Option.some.inj hz]
  have hb:bF fr to_ (zs.drop n)=if okB fr to_ z zs[n+1]?=true then some z else none:=by
   rw [hd,bF,h,List.head?_drop]
  have hL:z6l m (zs,ri) r8 n z=if okB fr to_ z zs[n+1]?=true then some (.inr (z,r8,true)) else some (.inl ()):=by
   unfold z6l z6m y39 okB onB;rw [h1,h2];simp only [Option.bind_some]
   by_cases hl:n+1 < zs.length
   ·rw [if_pos (by simp;omega),List.getElem?_eq_getElem hl];rfl
   ·rw [if_neg (by simp;omega),List.getElem?_eq_none (by omega)];rfl
  show (zs[n]?).bind _=_;rw [hz];simp only [Option.bind_some,hL]
  by_cases ho:okB fr to_ z zs[n+1]?=true
  ·rw [if_pos ho] at hb ⊢;rw [x7u n zs hb];rfl
  ·rw [if_neg ho] at hb ⊢;exact x7r h1 h2 zs ri r8 n (by omega) hb
theorem x7t {fr to_:Int}:∀ (zs:List ya),(∀ z,z∈zs->to_<=z.Since)->bF fr to_ zs=none
 | [],_=>rfl
 | s::zs,h=>by
  have h1:=h s (by simp);rw [bF,x7t zs λz hz=>h z (by simp [hz])]
  have:okB fr to_ s zs.head?=false:=by
   unfold okB;have:decide (s.Since < to_)=false:=by simp;omega
   simp [this]
  simp [this]
section
variable {c:zw} {apps:List zn}
theorem y5u {fr to_:Int} (h1:fr < to_) (h2:to_<=345686400000) (a p:Bs):∀ (l:List zj) (s:ya),l.Pairwise (λx y=>orE x y < 0)->(onB s=true->s.Since < to_/\∀ x,x∈l->x.App=a->x.Product=p->s.Since < x.At) ->
  bF fr to_ (s::stS c a p s l)=pdR c fr a p s (cutT (to_-1) l)
 | [],s,_,hs=>by
  have hc:cutT (to_-1) []=[]:=rfl;rw [hc];simp only [stS,bF,pdR,List.head?_nil];cases ho:onB s
  ·simp [okB,ho]
  ·have:=(hs ho).1
   have:okB fr to_ s none=true:=by
    have e:endB none=345686400000:=rfl;unfold okB;rw [e];simp [ho];omega
   simp [this]
 | x::l,s,hr,hs=>by
  obtain⟨r1,r2⟩:=List.pairwise_cons.1 hr
  by_cases hx:x.At<=to_-1
  ·have hc:cutT (to_-1) (x::l)=x::cutT (to_-1) l:=by unfold cutT;rw [List.takeWhile_cons_of_pos (by simpa using hx)]
   rw [hc];simp only [stS,pdR];have hs':onB s=true->s.Since < to_/\∀ x,x∈l->x.App=a->x.Product=p->s.Since < x.At:=λho=>⟨(hs ho).1,λy hy=>(hs ho).2 y (by simp [hy])⟩
   by_cases hp:x.App=a/\x.Product=p
   ·rw [if_pos hp,if_pos hp];cases hf:(fol c s x).2
    ·simp only [Bool.false_eq_true,if_false];exact y5u h1 h2 a p l s r2 hs'
    ·simp only [if_true];have hS:=(y5e hf).1
     have ih:=y5u h1 h2 a p l (fol c s x).1 r2 λ_=>⟨by rw [hS];omega,λy hy y1 y2=>by
      have o:=r1 y hy;have:=z9a o;rcases Int.lt_or_le x.At y.At with h|h
      ·rw [hS];exact h
      ·have e:x.At=y.At:=by omega
       rw [w2u e (hp.1.trans y1.symm) (hp.2.trans y2.symm)] at o
       omega⟩
     rw [bF,ih]
     cases pdR c fr a p (fol c s x).1 (cutT (to_-1) l) with
     | some z=>rfl
     | none =>
      simp only [List.head?_cons]
      have:okB fr to_ s (some (fol c s x).1)=(onB s && decide (fr < x.At)):=by
       simp only [okB,endB,hS];cases ho:onB s
       ·simp
       ·have q1:=(hs ho).1;have q2:=(hs ho).2 x (by simp) hp.1 hp.2;simp [q1,q2]
      simp only [this]
   ·rw [if_neg hp,if_neg hp];exact y5u h1 h2 a p l s r2 hs'
  ·have hc:cutT (to_-1) (x::l)=[]:=by unfold cutT;rw [List.takeWhile_cons_of_neg (by simpa using hx)]
   rw [hc]
   have hall:∀ z,z∈stS c a p s (x::l)->to_<=z.Since:=λz hz=>by
    obtain⟨y,y1,y2⟩:=y2l c a p _ s z hz;rw [y2];rcases List.mem_cons.1 y1 with rfl|y1
    ·omega
    ·have:=z9a (r1 y y1);omega
   rw [bF,x7t _ hall];simp only [pdR]
   have:okB fr to_ s (stS c a p s (x::l)).head?=onB s:=by
    unfold okB;cases ho:onB s
    ·simp
    ·have q1:=(hs ho).1
     have q2:to_<=endB (stS c a p s (x::l)).head?:=by
      cases hh:(stS c a p s (x::l)).head? with
      | none=>simpa [endB] using h2
      | some y=>exact hall y (List.mem_of_head? hh)
     simp only [Bool.true_and,Bool.and_eq_true,decide_eq_true_eq];omega
   rw [this]
end
theorem x5g {m:Int} (h:0<=m/\m<=132):wr (m*2592000000)=m*2592000000/\wr ((wr (m+1))*2592000000)=(m+1)*2592000000:=by
 have e:wr (m+1)=m+1:=wb (by omega);rw [e];exact⟨wb (by omega),wb (by omega)⟩
section
variable {c:zw} {apps:List zn} (hb:CB c) (hc:catF c=0)
include hb hc
theorem w2i {m:Int} (hm:0<=m/\m<=132) (l:List zj) (hx:∀ x,x∈l->EOk c apps x) (hr:l.Pairwise λx y=>orE x y < 0) (hl:l.length<=100000) (a p:Bs) :
  z5v c l a p m=some (match pdR c (m*2592000000) a p wz (cutT ((m+1)*2592000000-1) l) with|some z=>(z,lsR c a p wz (cutT ((m+1)*2592000000-1) l),true)|none=>(z0,lsR c a p wz (cutT ((m+1)*2592000000-1) l),false)):=by
 obtain⟨m1,m2⟩:=x5g hm
 have hlen:∀ (l:List zj) (s:ya),(stS c a p s l).length<=l.length:=by
  intro l
  induction l with
  | nil=>intro s;simp [stS]
  | cons x l ih =>
   intro s;simp only [stS];split
   ·split
    ·have:=ih (fol c s x).1;simp only [List.length_cons];omega
    ·have:=ih s;simp only [List.length_cons];omega
   ·have:=ih s;simp only [List.length_cons];omega
 have h0:=hlen l wz;unfold z5v;rw [x3t hb hc l a p hx hl,m2];have e:wr ((m+1)*2592000000-1)=(m+1)*2592000000-1:=wb (by omega);rw [e];simp only [Option.bind_some];rw [x9w (apps:=apps) hb hc (v:=(m+1)*2592000000-1) (by omega) l hx hr hl a p];simp only [Option.bind_some];rw [if_pos (by simp only [List.length_cons];omega),x7r m1 m2 _ _ _ _ (Nat.le_refl _) (by rw [List.drop_length];rfl)];rw [y5u (c:=c) (by omega) (by omega) a p l wz hr (λh=>by simp [onB,wz] at h)];rw [y83 (apps:=apps) a p _ _ (λx hx'=>hx x (y1h hx').1) (λ_ _=>z2d)]
end
section
variable {κ τ:Type}
theorem x4q {l:List (κ×τ)} {k:κ} (h:lkG l k=none) (v:τ):ptG l k v=l++[(k,v)]:=by
 induction l with
 | nil=>rfl
 | cons p l ih =>
  rw [lkG] at h;split at h
  ·cases h
  ·rename_i hp;rw [ptG,if_neg hp,ih h];rfl
theorem w17 {l:List (κ×τ)} {k:κ} {w:τ} (h:lkG l k=some w) (v:τ):(ptG l k v).length=l.length:=by
 induction l with
 | nil=>simp [lkG] at h
 | cons p l ih =>
  rw [lkG] at h;rw [ptG];split
  ·rfl
  ·rename_i hp;rw [if_neg hp] at h;simp only [List.length_cons,ih h]
theorem w3h {τ':Type} (f:τ->τ') (l:List (κ×τ)) (k:κ):lkG (l.map λp=>(p.1,f p.2)) k=(lkG l k).map f:=by
 induction l with
 | nil=>rfl
 | cons p l ih =>
  rw [List.map_cons,lkG,lkG];split
  ·rfl
  ·exact ih
end
noncomputable def aE (E:List (zx×qu)) (a p:Bs):qu:=(lkG E (zx.mk a p)).getD a00
structure AI (c:zw) (apps:List zn) (E:List (zx×qu)):Prop where
 d:E.Pairwise λp q=>p.1≠q.1
 k:∀ q,q∈E->∃ x,EOk c apps x/\EB x/\q.1=zx.mk x.App x.Product
 s:∀ a p,SI (aE E a p).last_
section
variable {c:zw} {apps:List zn} (hb:CB c) (hc:catF c=0)
include hb hc
theorem w92 {fr:Int} {E:List (zx×qu)} {a:qu} {x:zj} (h:lkG E (zx.mk x.App x.Product)=some a) (hs:SI a.last_) (hx:EOk c apps x):z1v c fr x E=some (.inl (ptG E (zx.mk x.App x.Product) (acF c fr a x))):=by
 unfold z1v;rw [h];simp only [Option.bind_some];have e:z04 a.last_.State=some (onB a.last_):=rfl;rw [e];simp only [Option.bind_some];unfold z7u acF;rw [w7w hb hc hs hx];cases onB a.last_ && decide (fr < x.At) <;> rfl
omit hb hc in
theorem w91 {fr to_:Int} {E:List (zx×qu)} {x:zj} (hx:EB x):z1u c fr to_ x E=if to_<=x.At then some (.inr (E.map λp=>(p.1,vg p.2))) else z1v c fr x (if (lkG E (zx.mk x.App x.Product)).isNone=true then ptG E (zx.mk x.App x.Product) a00 else E):=by
 unfold z1u;have h1:=hx.a;have h2:=hx.p
 by_cases ht:to_<=x.At
 ·rw [if_pos (by simpa using ht),if_pos ht];rfl
 ·rw [if_neg (by simpa using ht),if_neg ht,if_pos ⟨by omega,by omega⟩]
  cases hq:lkG E (zx.mk x.App x.Product) with
  | none =>
   rw [if_pos (by rfl),if_pos (by rfl),x4q hq];rfl
  | some a=>rw [if_neg (by simp),if_neg (by simp)]
theorem x8c {fr to_:Int}:∀ (l:List zj) (k:Nat) (E:List (zx×qu)),(∀ x,x∈l->EOk c apps x/\EB x)->AI c apps E ->
  ∃ E',forL (λ_ x E=>z1u c fr to_ x E) z7t k l E=some (E'.map λp=>(p.1,vg p.2))/\(∀ a p,aE E' a p=acR c fr a p (aE E a p) (cutT (to_-1) l))/\AI c apps E'/\E'.length<=E.length+l.length
 | [],k,E,_,hE=>⟨E,rfl,λ_ _=>rfl,hE,by simp⟩
 | x::l,k,E,hx,hE=>by
  obtain⟨x1,x2⟩:=hx x (by simp);have hx':∀ y,y∈l->EOk c apps y/\EB y:=λy hy=>hx y (by simp [hy]);show ∃ E',(z1u c fr to_ x E).bind _=_/\_;rw [w91 x2]
  by_cases ht:to_<=x.At
  ·rw [if_pos ht];refine⟨E,rfl,λa p=>?_,hE,by simp⟩;have:cutT (to_-1) (x::l)=[]:=by unfold cutT;rw [List.takeWhile_cons_of_neg (by simp;omega)]
   rw [this];rfl
  ·rw [if_neg ht];have hcut:cutT (to_-1) (x::l)=x::cutT (to_-1) l:=by unfold cutT;rw [List.takeWhile_cons_of_pos (by simp;omega)]
   rw [hcut];have hs:=hE.s x.App x.Product;obtain⟨f1,f2⟩:=z3y hs x1
   have key:∀ E1:List (zx×qu),lkG E1 (zx.mk x.App x.Product)=some (aE E x.App x.Product)->(∀ k',k'≠zx.mk x.App x.Product->lkG E1 k'=lkG E k')->E1.Pairwise (λp q=>p.1≠q.1)->E1.length<=E.length+1->(∀ q,q∈E1->q.1=zx.mk x.App x.Product∨q∈E) ->
     ∃ E',(z1v c fr x E1).bind (after (forL (λ_ x E=>z1u c fr to_ x E) z7t (k+1) l))=some (E'.map λp=>(p.1,vg p.2))/\(∀ a p,aE E' a p=acR c fr a p (aE E a p) (x::cutT (to_-1) l))/\AI c apps E'/\E'.length<=E.length+(x::l).length:=by
    intro E1 h1 h2 h3 h4 h5;rw [w92 (apps:=apps) hb hc h1 hs x1];simp only [Option.bind_some,after]
    have hG:∀ a p,aE (ptG E1 (zx.mk x.App x.Product) (acF c fr (aE E x.App x.Product) x)) a p=if x.App=a/\x.Product=p then acF c fr (aE E a p) x else aE E a p:=λa p=>by
     unfold aE;rw [z29]
     by_cases hp:x.App=a/\x.Product=p
     ·obtain⟨rfl,rfl⟩:=hp;rw [if_pos rfl,if_pos ⟨rfl,rfl⟩];rfl
     ·have hne:¬ zx.mk x.App x.Product=zx.mk a p:=λe=>hp (by injection e with e1 e2;exact⟨e1,e2⟩);rw [if_neg hne,if_neg hp,h2 _ (Ne.symm hne)]
    have hI:AI c apps (ptG E1 (zx.mk x.App x.Product) (acF c fr (aE E x.App x.Product) x)):=by
     refine⟨y24 _ _ h3,λq hq=>?_,λa p=>?_⟩
     ·have:q.1=zx.mk x.App x.Product∨q∈E:=by
       rcases z4v E1 _ _ q hq with rfl|h|h
       ·exact .inl rfl
       ·exact h5 q h.1
       ·exact h5 q h
      rcases this with h|h
      ·exact⟨x,x1,x2,h⟩
      ·exact hE.k q h
     ·rw [hG];split
      ·rename_i hp;obtain⟨rfl,rfl⟩:=hp;exact f1
      ·exact hE.s a p
    obtain⟨E',r1,r2,r3,r4⟩:=x8c l (k+1) _ hx' hI;refine⟨E',r1,λa p=>?_,r3,?_⟩
    ·rw [r2,hG];simp only [acR];split <;> rfl
    ·rw [w17 h1] at r4;simp only [List.length_cons];omega
   cases hq:lkG E (zx.mk x.App x.Product) with
   | none =>
    have e0:aE E x.App x.Product=a00:=by unfold aE;rw [hq];rfl
    rw [if_pos (by rfl)];refine key _ ?_ (λk' hk=>?_) (y24 _ _ hE.d) (y74 _ _ _) (λq hq'=>?_)
    ·rw [z29,if_pos rfl,e0]
    ·rw [z29,if_neg (Ne.symm hk)]
    ·rcases z4v E _ _ q hq' with rfl|h|h
     ·exact .inl rfl
     ·exact .inr h.1
     ·exact .inr h
   | some a =>
    rw [if_neg (by simp)];refine key E ?_ (λ_ _=>rfl) hE.d (by omega) (λq h=>.inr h);unfold aE;rw [hq];rfl
theorem w9x {m:Int} (hm:0<=m/\m<=132) (l:List zj) (hx:∀ x,x∈l->EOk c apps x/\EB x) (hl:l.length<=100000) :
  ∃ E',z9w c l m=some (E'.map λp=>(p.1,vg p.2))/\(∀ a p,aE E' a p=acR c (m*2592000000) a p a00 (cutT ((m+1)*2592000000-1) l))/\AI c apps E'/\E'.length<=l.length:=by
 obtain⟨m1,m2⟩:=x5g hm;obtain⟨E',h1,h2,h3,h4⟩:=x8c (apps:=apps) (fr:=m*2592000000) (to_:=(m+1)*2592000000) hb hc l 0 [] hx ⟨by simp,by simp,λ_ _=>z2d⟩;refine⟨E',?_,h2,h3,by simpa using h4⟩;unfold z9w;rw [if_pos (by omega),m1,m2];exact h1
end
def lnB (a p:Bs) (n pr pd rf:Int) (ended:Bool):List qj:=
 ((if pd≠0 then [qj.mk a p [98,97,115,101] 0 pd] else [])++(if pr≠0 then [qj.mk a p [99,97,108,108,115] n pr] else []))++(if ended=true/\rf≠0 then [qj.mk a p [114,101,102,117,110,100] 0 (-rf)] else [])
theorem w3g (a p:Bs) (n pr pd rf:Int) (e:Bool):(lnB a p n pr pd rf e).length<=3:=by
 unfold lnB;simp only [List.length_append];split <;> split <;> split <;> simp
def dayR (m since:Int):Int:=(since-m*2592000000) / 86400000
def rfR (m since pd:Int):Int:=pd*(29-dayR m since) / 30
def pdS (m:Int) (q:yd) (s:ya):Int:=if q.Trial<=m-s.First / 2592000000 then q.Base else 0
def lnS (a p:Bs) (m n:Int) (q:yd) (s last:ya):List qj:=lnB a p n (Yc q n) (pdS m q s) (rfR m last.Since (pdS m q s)) (decide (last.State=4))
theorem y85 (a p w:Bs) (k cents:Int) (l:List qj) (h:l.length<=1000):z2u w k cents l (zx.mk a p)=some (l++if cents≠0 then [qj.mk a p w k cents] else []):=by
 unfold z2u
 by_cases hz:cents=0
 ·rw [if_neg (by simpa using hz),if_neg (by simpa using hz),List.append_nil]
 ·rw [if_pos (by simpa using hz),if_pos (by omega),if_pos hz]
theorem x4k {m since pd:Int} (hm:0<=m/\m<=132) (hp:0<=pd/\pd<=1000000000000) (hs:m*2592000000<=since/\since < (m+1)*2592000000) :
  wr (m*2592000000)=m*2592000000/\wr (since-m*2592000000)=since-m*2592000000/\(0<=since-m*2592000000/\since-m*2592000000<=9223372036854775807)/\wr (29-(since-m*2592000000) / 86400000)=29-(since-m*2592000000) / 86400000 /\
  wr (pd*(29-(since-m*2592000000) / 86400000))=pd*(29-(since-m*2592000000) / 86400000)/\(0<=pd*(29-(since-m*2592000000) / 86400000)/\pd*(29-(since-m*2592000000) / 86400000)<=9223372036854775807)/\(-9223372036854775807<=pd*(29-(since-m*2592000000) / 86400000) / 30/\pd*(29-(since-m*2592000000) / 86400000) / 30<=9223372036854775807):=by
 have h1:0<=29-(since-m*2592000000) / 86400000/\29-(since-m*2592000000) / 86400000<=29:=by omega
 generalize hd:29 - (since - m * 2592000000) / 86400000=d at *
 have h2:0<=pd*d:=Int.mul_nonneg hp.1 h1.1;have h3:pd*d<=pd*29:=Int.mul_le_mul_of_nonneg_left h1.2 hp.1;refine⟨wb (by omega),wb (by omega),by omega,wb (by omega),wb (by omega),by omega,by omega⟩
section
variable {c:zw} {q:yd} (hq:PG q) {m n:Int} (hm:0<=m/\m<=132) (hn:0<=n/\n<=1000000000000) {s last:ya} (hs:onB s=true) (hf:0<=s.First/\s.First<=345686400000) (hl:last.State=4->m*2592000000<=last.Since/\last.Since < (m+1)*2592000000)
include hq hm hn hs hf hl
theorem w3k (a p:Bs) (hpl:Yu c s.Plan=some (q,true)):z06 (qu.mk s last) c (zx.mk a p) m n=some (lnS a p m n q s last):=by
 have hst:s.State≠0:=by unfold onB at hs;intro h;simp [h] at hs
 have hJ:∀ v,(0<=v/\v<=1000000000000)->z2m (qu.mk s last) (zx.mk a p) m n (q,true) v=some (lnB a p n (Yc q n) v (rfR m last.Since v) (decide (last.State=4))):=by
  intro v hv;unfold z2m;rw [y85 _ _ _ _ _ _ (by simp),x4t hq hn];simp only [Option.bind_some,List.nil_append];rw [y85 _ _ _ _ _ _ (by split <;> simp)];simp only [Option.bind_some]
  by_cases h4:last.State=4
  ·obtain⟨w1,w2,w3,w4,w5,w6,w7⟩:=x4k hm hv (hl h4);rw [if_pos (by simpa using h4),w1,w2,w4,w5,if_pos ⟨w3,by omega⟩,if_pos ⟨w6,by omega⟩,if_pos w7,y85 _ _ _ _ _ _ (by simp only [List.length_append];split <;> split <;> simp)];unfold z2l lnB rfR dayR;simp only [Option.bind_some]
   by_cases hr:v*(29-(last.Since-m*2592000000) / 86400000) / 30=0
   ·congr 2;rw [if_neg (by omega),if_neg (λh=>h.2 hr)]
   ·congr 2;rw [if_pos (by omega),if_pos ⟨by simpa using h4,hr⟩]
  ·rw [if_neg (by simpa using h4)];unfold z2l lnB;rw [if_neg (c:=decide (last.State=4)=true/\rfR m last.Since v≠0) (λh=>h4 (by simpa using h.1)),List.append_nil]
 unfold z06;have hw:wr (m-s.First / 2592000000)=m-s.First / 2592000000:=wb (by omega);rw [if_neg (by simpa using hst),hpl];simp only [Option.bind_some];rw [if_pos ⟨⟨hf.1,by omega⟩,by omega⟩,hw];unfold lnS pdS
 by_cases ht:q.Trial<=m-s.First / 2592000000
 ·rw [if_pos (by simpa using ht),if_pos ht];exact hJ _ hq.base
 ·rw [if_neg (by simpa using ht),if_neg ht];exact hJ _ (by omega)
theorem w3j (l:List zj) (u:List zz) (a p:Bs) (hpa:z5v c l a p m=some (s,last,true)) (hpl:xr c s.Plan=some (ixL c s.Plan)) (hat:at? c.Plans (ixL c s.Plan)=some q) (hca:z5x u a p m=some n):z2y c l u a p m=some (lnS a p m n q s last):=by
 have hw:wr (m-s.First / 2592000000)=m-s.First / 2592000000:=wb (by omega);have hb:=hq.base
 have hJ3:∀ (b:Bool) (v:List qj),v.length<=10->z3d a p m (s,last,true) q b v=some (v++if decide (last.State=4)=true/\rfR m last.Since (if b=true then q.Base else 0)≠0 then [qj.mk a p [114,101,102,117,110,100] 0 (-(rfR m last.Since (if b=true then q.Base else 0)))] else []):=by
  intro b v hv;unfold z3d z3c;cases b
  ·have:rfR m last.Since 0=0:=by unfold rfR;simp
   simp [this]
  ·by_cases h4:last.State=4
   ·obtain⟨w1,w2,w3,w4,w5,w6,w7⟩:=x4k hm hb (hl h4);rw [if_pos (by simpa using h4),w1,w2,w4,w5,if_pos ⟨w3,by omega⟩,if_pos ⟨w6,by omega⟩,if_pos rfl]
    by_cases hr:q.Base*(29-(last.Since-m*2592000000) / 86400000) / 30=0
    ·rw [if_neg (by simpa using hr),if_neg (λh=>h.2 hr),List.append_nil]
    ·rw [if_pos (by simpa using hr),if_pos w7,if_pos (by omega),if_pos ⟨by simpa using h4,hr⟩];rfl
   ·rw [if_neg (by simp [h4]),if_neg (λh=>h4 (by simpa using h.1)),List.append_nil]
 have hJ2:∀ (b:Bool) (v:List qj),v.length<=5->z3e u a p m (s,last,true) q b v=some ((v++if Yc q n≠0 then [qj.mk a p [99,97,108,108,115] n (Yc q n)] else [])++if decide (last.State=4)=true/\rfR m last.Since (if b=true then q.Base else 0)≠0 then [qj.mk a p [114,101,102,117,110,100] 0 (-(rfR m last.Since (if b=true then q.Base else 0)))] else []):=by
  intro b v hv;unfold z3e;rw [hca];simp only [Option.bind_some];rw [w2a hq hn];simp only [Option.bind_some]
  by_cases h0:Yc q n=0
  ·rw [if_neg (by simpa using h0),hJ3 b v (by omega),if_neg (not_not_intro h0),List.append_nil]
  ·rw [if_pos (by simpa using h0),if_pos (by omega),hJ3 b _ (by simp;omega),if_pos h0]
 have hJ1:∀ b:Bool,z3f u a p m (s,last,true) q b=some (((if b=true then [qj.mk a p [98,97,115,101] 0 q.Base] else [])++(if Yc q n≠0 then [qj.mk a p [99,97,108,108,115] n (Yc q n)] else []))++if decide (last.State=4)=true/\rfR m last.Since (if b=true then q.Base else 0)≠0 then [qj.mk a p [114,101,102,117,110,100] 0 (-(rfR m last.Since (if b=true then q.Base else 0)))] else []):=by
  intro b;unfold z3f;cases b
  ·rw [if_neg (by simp),hJ2 false [] (by simp)];rfl
  ·rw [if_pos rfl,if_pos (by simp),hJ2 true _ (by simp)];rfl
 unfold z2y;rw [hpa];simp only [Option.bind_some];rw [if_neg (by simp),hpl];simp only [Option.bind_some];rw [hat];simp only [Option.bind_some];rw [hw];unfold lnS lnB pdS
 by_cases h0:q.Base=0
 ·rw [if_neg (by simpa using h0),hJ1 false];have e:(if q.Trial<=m-s.First / 2592000000 then q.Base else 0)=0:=by rw [h0];split <;> rfl
  rw [e];rfl
 ·rw [if_pos (by simpa using h0),if_pos ⟨⟨hf.1,by omega⟩,by omega⟩,hJ1]
  by_cases ht:q.Trial<=m-s.First / 2592000000
  ·rw [decide_eq_true ht,if_pos ht,if_pos h0];rfl
  ·rw [decide_eq_false ht,if_neg ht];rfl
end
section
variable {α:Type} {p:α->α->Option Int}
def adjS (p:α->α->Option Int):List α->Prop
 | x::y::l=>(∃ c,p y x=some c/\¬ c < 0)/\adjS p (y::l)
 | _=>True
theorem x8b:∀ (A:List α) (y x:α) (B:List α),adjS p (A++[y])->adjS p (x::B)->(∃ c,p x y=some c/\¬ c < 0)->adjS p (A++y::x::B)
 | [],y,x,B,_,h2,h3=>⟨h3,h2⟩
 | [a],y,x,B,h1,h2,h3=>⟨h1.1,h3,h2⟩
 | a::b::A,y,x,B,h1,h2,h3=>⟨h1.1,x8b (b::A) y x B h1.2 h2 h3⟩
theorem x79:∀ (A B:List α),adjS p (A++B)->adjS p A
 | [],B,_=>trivial
 | [a],B,_=>trivial
 | a::b::A,B,h=>⟨h.1,x79 (b::A) B h.2⟩
theorem x77:∀ (A B:List α),adjS p (A++B)->adjS p B
 | [],B,h=>h
 | [a],[],_=>trivial
 | [a],b::B,h=>h.2
 | a::b::A,B,h=>x77 (b::A) B h.2
def taP (p:α->α->Option Int):Prop:=(∀ u v,∃ c,p u v=some c)/\∀ u v c d,p u v=some c->p v u=some d->c < 0->¬ d < 0
theorem x8a (ta:taP p) (x:α) (B:List α) (hB:adjS p B) (h:∀ b B0,B=b::B0->∃ c,p x b=some c/\c < 0):adjS p (x::B):=by
 cases B with
 | nil=>trivial
 | cons b B0 =>
  obtain⟨c,h1,h2⟩:=h b B0 rfl;obtain⟨d,h3⟩:=ta.1 b x;exact⟨⟨d,h3,ta.2 x b c d h1 h3 h2⟩,hB⟩
theorem w61 (ta:taP p) (i:Int) (x:α) (C:List α):∀ (n:Nat) (A B:List α),A.length=n->n<=1000000->adjS p (A++B)->(∀ b B0,B=b::B0->∃ c,p x b=some c/\c < 0) ->
  ∃ A' B',A'++B'=A++B/\iter (λ(s:Int×List α)=>gL3 0 p i s.1 s.2) ((n:Int),A++x::(B++C))=some (.inl (wr (i+1),A'++x::(B'++C)))/\adjS p (A'++x::B'):=by
 intro n
 induction n with
 | zero =>
  intro A B hA _ had hB;obtain rfl:A=[]:=List.length_eq_zero_iff.1 hA;exact⟨[],B,rfl,ko (y95 i _),x8a ta x B had hB⟩
 | succ n ih =>
  intro A B hA hn had hB
  obtain⟨A0,y,rfl⟩:∃ A0 y,A=A0++[y]:=by
   rcases List.eq_nil_or_concat A with rfl|⟨A0,y,h⟩
   ·simp at hA
   ·exact⟨A0,y,by simpa using h⟩
  have hA0:A0.length=n:=by simpa using hA
  obtain⟨c,h1⟩:=ta.1 x y;subst hA0;have e1:(A0++[y])++x::(B++C)=A0++y::x::(B++C):=by simp
  by_cases hc:c < 0
  ·obtain⟨A',B',q1,q2,q3⟩:=ih A0 (y::B) rfl (by omega) (by simpa using had) (λb B0 e=>by cases e;exact⟨c,h1,hc⟩);refine⟨A',B',by rw [q1];simp,?_,q3⟩;rw [e1];exact (z1b (y97 i A0 (B++C) y x (by omega) h1 hc)).trans q2
  ·refine⟨A0++[y],B,rfl,?_,?_⟩
   ·rw [e1];exact ko (y96 i A0 (B++C) y x (by omega) h1 hc)
   ·have:=x8b A0 y x B (x79 _ B had) (x8a ta x B (x77 _ B had) hB) ⟨c,h1,hc⟩;simpa using this
theorem x6r (ta:taP p) (m:Nat):∀ (rest pre:List α),pre.length+rest.length=m->m<=1000000->adjS p pre ->
  ∃ r,r.Perm (pre++rest)/\iter (λ(s:Int×List α)=>gL1 0 (m:Int) p s.1 s.2) ((pre.length:Int),pre++rest)=some r/\adjS p r
 | [],pre,hm,_,had=>by
  refine⟨pre++[],List.Perm.refl _,ko ?_,by simpa using had⟩;unfold gL1;rw [if_neg (by simp at hm;simp;omega)]
 | x::rest,pre,hm,hb,had=>by
  simp only [List.length_cons] at hm;obtain⟨A',B',q1,q2,q3⟩:=w61 ta (pre.length:Int) x rest pre.length pre [] rfl (by omega) (by simpa using had) (λb B0 e=>by cases e);rw [List.append_nil] at q1;rw [List.nil_append] at q2;have hw:wr ((pre.length:Int)+1)=((pre.length+1:Nat):Int):=x18 (by omega)
  have hlen:(A'++x::B').length=pre.length+1:=by
   have:=congrArg List.length q1;simp at this ⊢;omega
  have hperm:(A'++x::B').Perm (x::pre):=by
   rw [← q1];exact List.perm_middle
  obtain⟨r,r1,r2,r3⟩:=x6r ta m rest (A'++x::B') (by rw [hlen];omega) hb q3;have e0:A'++x::(B'++rest)=(A'++x::B')++rest:=by simp
  rw [hlen,← hw,← e0] at r2;have hlt:decide ((pre.length:Int) < (m:Int))=true:=by simp;omega
  refine⟨r,r1.trans ?_,?_,r3⟩
  ·refine (hperm.append_right rest).trans ?_;exact List.perm_middle.symm
  ·refine (z1b (s':=(wr ((pre.length:Int)+1),A'++x::(B'++rest))) ?_).trans r2;unfold gL1;rw [if_pos hlt];exact q2
theorem w7i (ta:taP p) (l:List α) (h:l.length<=1000000):∃ r,r.Perm l/\gIns l 0 (l.length:Int) p=some r/\adjS p r:=by
 have hw:wr ((0:Int)+1)=1:=by decide
 unfold gIns;rw [hw]
 cases l with
 | nil =>
  refine⟨[],List.Perm.refl _,ko ?_,trivial⟩;unfold gL1;rw [if_neg (by simp)]
 | cons x l=>exact x6r ta (x::l).length l [x] (by simp only [List.length_cons,List.length_nil];omega) h trivial
end
theorem x7j:∀ a b:Bs,cmpL a b < 0↔a < b
 | [],[]=>by simp [cmpL,Lib.compareBytes]
 | [],_::_=>by simp [cmpL,Lib.compareBytes]
 | _::_,[]=>by simp [cmpL,Lib.compareBytes]
 | a::as1,b::bs=>by
  have ih:=x7j as1 bs;rw [List.cons_lt_cons_iff];simp only [cmpL,Lib.compareBytes] at ih ⊢
  by_cases h1:a < b
  ·simp [h1]
  ·by_cases h2:b < a
   ·have:¬ a=b:=λe=>by subst e;exact h1 h2
    simp [h1,h2,this]
   ·have:a=b:=by
     rw [UInt8.lt_iff_toNat_lt] at h1 h2;exact UInt8.toNat_inj.1 (by omega)
    simp [h1,h2,this,ih]
theorem x0y {x y:Bs} (h:¬ cmpL y x < 0) (hne:x≠y):cmpL x y < 0:=by
 have h1:=y5p x y;have h2:cmpL x y≠0:=λe=>hne ((ka _ _).1 e);omega
theorem w8s {a b c d:Bs} (h:¬ cmp2 c d a b < 0) (hne:¬ (a=c/\b=d)):cmp2 a b c d < 0:=by
 unfold cmp2 at *
 by_cases e1:cmpL a c=0
 ·have:=(ka _ _).1 e1;subst this;rw [if_neg (by simpa using e1)] at h ⊢;exact x0y h λe=>hne ⟨rfl,e⟩
 ·have h1:=y5p a c;rw [if_pos (by omega)] at h;rw [if_pos e1];omega
theorem w8t (a b:Bs):¬ cmp2 a b a b < 0:=by
 unfold cmp2;rw [(ka a a).2 rfl,(ka b b).2 rfl];simp
section
variable {α β:Type} {p:α->α->Option Int} {f:α->β} {cmp:β->β->Int}
theorem x78 (hp:∀ x y,p x y=some (cmp (f x) (f y))) (tot:∀ x y,¬ cmp y x < 0->x≠y->cmp x y < 0) (tr:∀ x y z,cmp x y < 0->cmp y z < 0->cmp x z < 0):∀ l:List α,adjS p l->(l.map f).Nodup->l.Pairwise λx y=>cmp (f x) (f y) < 0
 | [],_,_=>List.Pairwise.nil
 | [x],_,_=>by simp
 | x::y::l,h,hn=>by
  obtain⟨⟨c,h1,h2⟩,h3⟩:=h;rw [List.map_cons] at hn;obtain⟨hn1,hn2⟩:=List.nodup_cons.1 hn;have ih:=x78 hp tot tr (y::l) h3 hn2;rw [hp] at h1;have hc:cmp (f x) (f y) < 0:=tot _ _ (by rw [Option.some.inj h1];exact h2) λe=>hn1 (by rw [e];simp);refine List.pairwise_cons.2 ⟨λz hz=>?_,ih⟩;rcases List.mem_cons.1 hz with rfl|hz
  ·exact hc
  ·exact tr _ _ _ hc ((List.pairwise_cons.1 ih).1 z hz)
theorem x4x (hp:∀ x y,p x y=some (cmp (f x) (f y))) (tot:∀ x y,¬ cmp y x < 0->x≠y->cmp x y < 0) (tr:∀ x y z,cmp x y < 0->cmp y z < 0->cmp x z < 0) (irr:∀ x,¬ cmp x x < 0) (l:List α) (hl:l.length<=12) (hn:(l.map f).Nodup) :
  ∃ r,r.Perm l/\(∀ v,gPdq l 0 (l.length:Int) v p=some r)/\r.Pairwise λx y=>cmp (f x) (f y) < 0:=by
 have ta:taP p:=⟨λu v=>⟨_,hp u v⟩,λu v c d h1 h2 h3 h4=>by
  rw [hp] at h1 h2;cases h1;cases h2
  exact irr _ (tr _ _ _ h3 h4)⟩
 obtain⟨r,r1,r2,r3⟩:=w7i ta l (by omega);exact⟨r,r1,λv=>w7c l r _ v hl r2 r1.length_eq,x78 hp tot tr r r3 ((r1.map f).nodup_iff.2 hn)⟩
theorem y72 (irr:∀ x,¬ cmp x x < 0) (tr:∀ x y z,cmp x y < 0->cmp y z < 0->cmp x z < 0) {l1 l2:List α} (h1:l1.Pairwise λx y=>cmp (f x) (f y) < 0) (h2:l2.Pairwise λx y=>cmp (f x) (f y) < 0) (h:∀ x,x∈l1↔x∈l2):l1=l2:=by
 have n1:l1.Nodup:=h1.imp λh e=>by subst e;exact irr _ h
 have n2:l2.Nodup:=h2.imp λh e=>by subst e;exact irr _ h
 refine List.Perm.eq_of_pairwise (le:=λx y=>cmp (f x) (f y) < 0) (λa b _ _ hab hba=>absurd (tr _ _ _ hab hba) (irr _)) h1 h2 ?_;rw [List.perm_ext_iff_of_nodup n1 n2];exact h
end
theorem x5r (n:Nat) (h:n<=12):∃ v,z5t (IntKind.wrap .u64 (n:Int))=some v:=by
 have h1:((List.range 13).all λn=>(z5t (IntKind.wrap .u64 (n:Int))).isSome)=true:=by decide +kernel
 have h2:=List.all_eq_true.1 h1 n (by simp;omega);exact Option.isSome_iff_exists.1 h2
def pK (k:zx):Bs×Bs:=(k.app_,k.product_)
def cK (x y:Bs×Bs):Int:=cmp2 x.1 x.2 y.1 y.2
theorem w81 (x y:Bs×Bs) (h:¬ cK y x < 0) (hne:x≠y):cK x y < 0:=w8s h λe=>hne (Prod.ext e.1 e.2)
theorem x7n (x y z:Bs×Bs) (h1:cK x y < 0) (h2:cK y z < 0):cK x z < 0:=x00 h1 h2
theorem x06 (x:Bs×Bs):¬ cK x x < 0:=w8t _ _
theorem w2j {x y:zx} (h:pK x=pK y):x=y:=by
 cases x;cases y;unfold pK at h;injection h with h1 h2
 simp only at h1 h2;subst h1;subst h2;rfl
theorem w87 (x y:zx):Wp x y=some (cK (pK x) (pK y)):=by
 unfold Wp xf Wt;simp only [Option.bind_some];rw [if_pos (by simp)];simp only [forL,y1i,y1j];unfold cK pK cmp2;simp only
 by_cases h1:cmpL x.app_ y.app_=0
 ·by_cases h2:cmpL x.product_ y.product_=0
  ·simp [h1,h2,after]
  ·simp [h1,h2,after]
 ·simp [h1,after]
abbrev y50 (l:List zx):Prop:=l.Pairwise λx y=>cK (pK x) (pK y) < 0
theorem w3e {α β:Type} {f:α->β} (hf:∀ x y,f x=f y->x=y) {l:List α} (h:l.Nodup):(l.map f).Nodup:=by
 unfold List.Nodup at *
 rw [List.pairwise_map];exact h.imp λh e=>h (hf _ _ e)
theorem w05 {ks K:List zx} (hl:ks.length<=12) (hn:ks.Nodup) (hK:y50 K) (hm:∀ x,x∈K↔x∈ks):srtA Wp ks=some K:=by
 unfold srtA;refine x1q λp hp=>?_;have hpl:=hp.length_eq;obtain⟨r,r1,r2,r3⟩:=x4x (p:=Wp) (f:=pK) (cmp:=cK) w87 w81 x7n x06 p (by omega) (w3e (λ_ _=>w2j) (hp.nodup_iff.2 hn));have e:r=K:=y72 (f:=pK) (cmp:=cK) x06 x7n r3 hK λx=>by rw [r1.mem_iff,hp.mem_iff,hm]
 subst e;obtain⟨v,hv⟩:=x5r p.length (by omega);have hlen:=r1.length_eq;unfold y3v;rw [hv];simp only [Option.bind_some];have e2:y3s p 0 (p.length:Int) v Wp=some r:=r2 v;rw [e2];simp only [Option.bind_some];rw [if_pos hlen];simp only [Option.bind_some];rw [if_pos hlen]
theorem w04 {O B:List zu} (hl:O.length<=12) (hn:(O.map λb=>b.Owner).Nodup) (hB:kr zu.Owner B) (hm:∀ x,x∈B↔x∈O):allP (λp=>(z9n p z22).bind λr=>if r.length=p.length then some r else none) O=some B:=by
 refine x1q λp hp=>?_;have hpl:=hp.length_eq;have tr:∀ x y z:Bs,cmpL x y < 0->cmpL y z < 0->cmpL x z < 0:=λx y z=>z1n _ _ _;have irr:∀ x:Bs,¬ cmpL x x < 0:=λx=>by rw [(ka x x).2 rfl];omega
 obtain⟨r,r1,r2,r3⟩:=x4x (p:=z22) (f:=zu.Owner) (cmp:=cmpL) (λ_ _=>rfl) (λx y=>x0y) tr irr p (by omega) ((hp.map _).nodup_iff.2 hn);have e:r=B:=y72 (f:=zu.Owner) (cmp:=cmpL) irr tr r3 hB λx=>by rw [r1.mem_iff,hp.mem_iff,hm]
 subst e;obtain⟨v,hv⟩:=x5r p.length (by omega);have hlen:=r1.length_eq;unfold z9n;rw [hv];simp only [Option.bind_some];have e2:y3t p 0 (p.length:Int) v z22=some r:=r2 v;rw [e2];simp only [Option.bind_some];rw [if_pos hlen];simp only [Option.bind_some];rw [if_pos hlen]
theorem y6z {l:List Bs} (h:l.Nodup):kr (λx:Bs=>x) (Ze l):=by
 have h1:=y60 l;have h2:(Ze l).Nodup:=(List.mergeSort_perm l _).nodup_iff.2 h;refine (h1.and h2).imp λ{x y} ⟨a,b⟩=>?_;rcases Int.lt_or_le (cmpL x y) 0 with h|h
 ·exact h
 ·have:cmpL y x < 0:=x0y (by omega) (Ne.symm b);exact absurd ((x7j _ _).1 this) a
theorem x3u {ks:List Bs} (hl:ks.length<=1000000000):srtS ks=some (Ze ks):=by
 unfold srtS;refine x1q λp hp=>?_;unfold Wn;rw [if_pos (by rw [hp.length_eq];exact hl)];congr 1;refine List.Perm.eq_of_pairwise (le:=λx y:Bs=>x<=y) (λa b _ _ hab hba=>List.le_antisymm hab hba) (y60 p) (y60 ks) (((List.mergeSort_perm p _).trans hp).trans (List.mergeSort_perm ks _).symm)
noncomputable def lnF (c:zw) (l:List zj) (u:List zz) (m:Int) (a p:Bs):List qj:=
 match pdR c (m*2592000000) a p wz (cutT ((m+1)*2592000000-1) l) with
 | some z=>(match at? c.Plans (ixL c z.Plan) with
  | some q=>lnS a p m ((clU a p m u).getD 0) q z (lsR c a p wz (cutT ((m+1)*2592000000-1) l))
  | none=>[])
 | none=>[]
theorem y84 (c:zw) (l:List zj) (u:List zz) (m:Int) (a p:Bs):(lnF c l u m a p).length<=3:=by
 unfold lnF;split
 ·split
  ·exact w3g ..
  ·simp
 ·simp
theorem w7u {c:zw} {s:ya} {x:zj} {n:Int} (hs:s.First<=n) (hx:x.At<=n) (hn:-1<=n):(fol c s x).1.First<=n:=by
 unfold fol folF;generalize askP c x=a
 repeat' split
 all_goals (simp only;omega)
theorem x2i {c:zw} {apps:List zn} {l:List zz} (h:usF c apps l=0):∀ x,x∈l->0<=x.Calls/\x.Calls<=1000000000000:=by
 intro x hx;obtain⟨k,hk⟩:=List.getElem?_of_mem hx;unfold usF at h
 by_cases h1:catF c=0
 ·rw [if_neg (not_not_intro h1)] at h
  by_cases h2:apF apps=0
  ·rw [if_neg (not_not_intro h2)] at h
   by_cases h3:3000 < l.length
   ·rw [if_pos h3] at h;omega
   ·rw [if_neg h3] at h;have:=z7j l 0 h k x hk;rw [Nat.zero_add] at this;unfold us1 at this;split at this
    ·omega
    ·split at this
     ·omega
     ·rename_i h4;simp only [Bool.or_eq_true,not_or,Bool.not_eq_true] at h4;exact z00 h4.2
  ·rw [if_pos h2] at h;exact absurd h h2
 ·rw [if_pos h1] at h;exact absurd h h1
theorem x01 {a p:Bs} {m:Int}:∀ {l:List zz},(∀ x,x∈l->0<=x.Calls/\x.Calls<=1000000000000)->0<=(clU a p m l).getD 0/\(clU a p m l).getD 0<=1000000000000
 | [],_=>by simp [clU]
 | x::l,h=>by
  rw [clU];split
  ·exact h x (by simp)
  ·exact x01 λy hy=>h y (by simp [hy])
section
variable {c:zw} {apps:List zn} {l:List zj} {u:List zz} (hb:CB c) (ha:AB apps) (hl:∀ x,x∈l->EB x) (hu:∀ x,x∈u->atB x.Month/\x.App.length<=1000000/\x.Product.length<=1000000) (hul:u.length<=1000000) (h0:eF c apps l=0) (hu0:usF c apps u=0) {m:Int} (hm:0<=m/\m<=132)
include hb ha hl hu hul h0 hu0 hm
theorem x0t (a p:Bs) {z:ya} (hz:pdR c (m*2592000000) a p wz (cutT ((m+1)*2592000000-1) l)=some z) :
  onB z=true/\(0<=z.First/\z.First<=345686400000)/\((lsR c a p wz (cutT ((m+1)*2592000000-1) l)).State=4->m*2592000000<=(lsR c a p wz (cutT ((m+1)*2592000000-1) l)).Since/\(lsR c a p wz (cutT ((m+1)*2592000000-1) l)).Since < (m+1)*2592000000) /\
  ∃ q,at? c.Plans (ixL c z.Plan)=some q/\PG q/\Yu c z.Plan=some (q,true)/\xr c z.Plan=some (ixL c z.Plan):=by
 obtain⟨⟨e1,e2,e3⟩,e4,e5⟩:=z7m h0;have hx:∀ x,x∈cutT ((m+1)*2592000000-1) l->EOk c apps x:=λx hx=>e4 x (y1h hx).1;have hr:(cutT ((m+1)*2592000000-1) l).Pairwise λx y=>orE x y < 0:=(y7z e5).sublist (List.takeWhile_sublist _);obtain⟨⟨p1,p2,p3⟩,p4⟩:=y3i (apps:=apps) (P:=λs=>SI s/\PI c s/\s.First<=345686400000) (λs x h hx=>⟨(z3y h.1 hx).1,w7t h.2.1 hx,w7u h.2.2 (by have:=hx.t;omega) (by omega)⟩) _ a p _ wz z ⟨z2d,λh=>by simp [wz] at h,by simp [wz]⟩ hx hz;have hst:z.State=2∨z.State=3:=by unfold onB at p4;simpa using p4
 refine⟨p4,⟨p1.2.2 hst,p3⟩,λh4=>?_,?_⟩
 ·have h5:=y4e (apps:=apps) (B:=λt=>t < (m+1)*2592000000) a p (cutT ((m+1)*2592000000-1) l) wz (by simp only [wz];omega) z2d λx hx'=>⟨hx x hx',by have:=(y1h hx').2;omega⟩
  rcases y3h (apps:=apps) _ a p _ wz z hr z2d hx hz with h6|h6
  ·unfold onB at h6;rw [h4] at h6;simp at h6
  ·exact⟨Int.le_of_lt h6,h5⟩
 ·rcases z5d c z.Plan hb.nl (Wy e1).1.2 with ⟨w1,_⟩|⟨w1,w2,q,w3,w4,w5,w6⟩
  ·have:=p2 (by omega);rw [w1] at this;cases this
  ·exact⟨q,w3,(Wy e1).2 q w4,w6,y3f c z.Plan hb.nl⟩
theorem w3l (a p:Bs):z2y c l u a p m=some (lnF c l u m a p):=by
 obtain⟨⟨e1,e2,e3⟩,e4,e5⟩:=z7m h0;have hpa:=w2i (apps:=apps) hb e1 hm l e4 (y7z e5) (by omega) a p;unfold lnF
 cases hz:pdR c (m*2592000000) a p wz (cutT ((m+1)*2592000000-1) l) with
 | none =>
  rw [hz] at hpa;unfold z2y;rw [hpa];rfl
 | some z =>
  rw [hz] at hpa;obtain⟨q1,q2,q3,q,q4,q5,q6,q7⟩:=x0t hb ha hl hu hul h0 hu0 hm a p hz;simp only [q4];exact w3j q5 hm (x01 (x2i hu0)) q1 q2 q3 l u a p hpa q7 q4 (w80 a p m u (by omega))
theorem x5q {E':List (zx×qu)} (hE:∀ a p,aE E' a p=acR c (m*2592000000) a p a00 (cutT ((m+1)*2592000000-1) l)) {U:List (zz×Int)} (hU:Yg u=some U) (a p:Bs) (hap:a.length<=1000000/\p.length<=1000000) :
  match lkG (E'.map λp=>(p.1,vg p.2)) (zx.mk a p) with
  | some o=>∃ n,z6a U (zx.mk a p) m=some n/\z06 o c (zx.mk a p) m n=some (lnF c l u m a p)
  | none=>lnF c l u m a p=[]:=by
 obtain⟨⟨e1,e2,e3⟩,e4,e5⟩:=z7m h0;have hx:∀ x,x∈cutT ((m+1)*2592000000-1) l->EOk c apps x:=λx hx=>e4 x (y1h hx).1;have hr:(cutT ((m+1)*2592000000-1) l).Pairwise λx y=>orE x y < 0:=(y7z e5).sublist (List.takeWhile_sublist _);have h1:=x1u (apps:=apps) (m*2592000000) a p _ a00 hr hx z2d;have h2:=x1v c (m*2592000000) a p (cutT ((m+1)*2592000000-1) l) a00;rw [← hE a p] at h1 h2
 have h3:(vg (aE E' a p)).last_=lsR c a p wz (cutT ((m+1)*2592000000-1) l):=by
  have:(vg (aE E' a p)).last_=(aE E' a p).last_:=by unfold vg;split <;> rfl
  rw [this,h2];rfl
 rw [w3h]
 cases hk:lkG E' (zx.mk a p) with
 | none =>
  have e0:aE E' a p=a00:=by unfold aE;rw [hk];rfl
  rw [e0] at h1;show lnF c l u m a p=[]
  unfold lnF
  cases hz:pdR c (m*2592000000) a p wz (cutT ((m+1)*2592000000-1) l) with
  | none=>rfl
  | some z =>
   have q1:=(x0t hb ha hl hu hul h0 hu0 hm a p hz).1;have e:pdR c (m*2592000000) a p a00.last_ (cutT ((m+1)*2592000000-1) l)=some z:=hz;rw [e] at h1;have h1:z0=z:=h1;rw [← h1] at q1;simp [onB,z0] at q1
 | some o =>
  have e0:aE E' a p=o:=by unfold aE;rw [hk];rfl
  rw [e0] at h1 h3;show ∃ n,_/\z06 (vg o) c _ m n=_;obtain⟨m2,k1,k2⟩:=w8z (x2h hu0) hu hul a p m hap ⟨by omega,by omega⟩;rw [hU] at k1;cases k1;refine⟨_,k2,?_⟩;generalize vg o=o' at h1 h3;obtain⟨on,last⟩:=o';simp only at h1 h3;subst h3;unfold lnF;have e:pdR c (m*2592000000) a p a00.last_ (cutT ((m+1)*2592000000-1) l)=pdR c (m*2592000000) a p wz (cutT ((m+1)*2592000000-1) l):=rfl;rw [e] at h1
  cases hz:pdR c (m*2592000000) a p wz (cutT ((m+1)*2592000000-1) l) with
  | none =>
   rw [hz] at h1;have h1:on=z0:=h1;subst h1;unfold z06;rw [if_pos (by rfl)]
  | some z =>
   rw [hz] at h1;have h1:on=z:=h1;subst h1;obtain⟨q1,q2,q3,q,q4,q5,q6,q7⟩:=x0t hb ha hl hu hul h0 hu0 hm a p hz;simp only [q4];exact w3k q5 hm (x01 (x2i hu0)) q1 q2 q3 a p q6
end
def zb:zu:=zu.mk [] 0 [] 0
noncomputable def addB (m:Int) (o:Bs) (ls:List qj) (b:zu):zu:=zu.mk o m (b.Lines++ls) (ls.foldl (λs x=>wr (s+x.Cents)) b.Cents)
noncomputable def bsC (m:Int) (o:Bs) (ls:List qj) (O:List (Bs×zu)):List (Bs×zu):=if ls=[] then O else ptG O o (addB m o ls ((lkG O o).getD zb))
theorem x4p {κ τ:Type} (l:List (κ×τ)) (k:κ) (v w:τ):ptG (ptG l k v) k w=ptG l k w:=by
 induction l with
 | nil=>simp [ptG]
 | cons p l ih =>
  simp only [ptG]
  by_cases h:p.1=k
  ·simp [h,ptG]
  ·simp [h,ptG,ih]
structure OI (m:Int) (N:Nat) (O:List (Bs×zu)):Prop where
 d:O.Pairwise λp q=>p.1≠q.1
 o:∀ q,q∈O->(q.2.Owner=q.1/\q.2.Month=m)/\q.2.Lines.length<=3*N/\q.1.length<=1000
 z:O.length<=N
theorem OI.b {m:Int} {N:Nat} {O:List (Bs×zu)} (h:OI m N O) (o:Bs):((lkG O o).getD zb).Lines.length<=3*N:=by
 cases hk:lkG O o with
 | none=>simp [zb]
 | some b=>exact (h.o _ (z9d hk)).2.1
theorem w82 {m:Int} {N:Nat} {O:List (Bs×zu)} (h:OI m N O) (o:Bs) (ho:o.length<=1000) (ls:List qj) (hl:ls.length<=3):OI m (N+1) (bsC m o ls O):=by
 unfold bsC;split
 ·exact⟨h.d,λq hq=>by have:=h.o q hq;exact⟨this.1,by omega,this.2.2⟩,by have:=h.z;omega⟩
 ·refine⟨y24 _ _ h.d,λq hq=>?_,by have:=y74 O o (addB m o ls ((lkG O o).getD zb));have:=h.z;omega⟩;have old:q∈O->(q.2.Owner=q.1/\q.2.Month=m)/\q.2.Lines.length<=3*(N+1)/\q.1.length<=1000:=λhq=>by have:=h.o q hq;exact⟨this.1,by omega,this.2.2⟩
  rcases z4v O _ _ q hq with rfl|hq|hq
  ·refine⟨⟨rfl,rfl⟩,?_,ho⟩;have:=h.b o;unfold addB;simp only [List.length_append];omega
  ·exact old hq.1
  ·exact old hq
theorem x7o {m:Int} (o:Bs) (ho:o.length<=1000):∀ (ls:List qj) (k:Nat) (O:List (Bs×zu)),((lkG O o).getD zb).Lines.length+ls.length<=1000000->forL (λ_ x O=>z7p o m x O) some k ls O=some (bsC m o ls O)
 | [],k,O,_=>rfl
 | x::ls,k,O,h=>by
  simp only [List.length_cons] at h;show (z7p o m x O).bind _=_;unfold z7p;rw [if_pos ⟨by omega,by have e:(zu.mk [] 0 [] 0)=zb:=rfl;rw [e];omega⟩];simp only [Option.bind_some,after];have e1:lkG (ptG O o (addB m o [x] ((lkG O o).getD zb))) o=some (addB m o [x] ((lkG O o).getD zb)):=by rw [z29,if_pos rfl]
  have ih:=x7o (m:=m) o ho ls (k+1) (ptG O o (addB m o [x] ((lkG O o).getD zb))) (by rw [e1];unfold addB;simp only [Option.getD_some,List.length_append,List.length_cons,List.length_nil];omega);refine Eq.trans ih ?_;unfold bsC;rw [e1]
  cases ls with
  | nil=>rw [if_pos rfl,if_neg (List.cons_ne_nil _ _)]
  | cons y ls =>
   rw [if_neg (List.cons_ne_nil y ls),if_neg (List.cons_ne_nil x (y::ls)),x4p];simp only [Option.getD_some];unfold addB;simp
theorem x3j:∀ (ls:List qj) (k:Nat) (s:Int),forL (λ_ (x:qj) (s:Int)=>(some (.inl (wr (s+x.Cents))):Option (Int ⊕ Int))) some k ls s=some (ls.foldl (λs x=>wr (s+x.Cents)) s)
 | [],k,s=>rfl
 | x::ls,k,s=>x3j ls (k+1) _
theorem w9e {m:Int} (o:Bs) (ls:List qj) (hls:ls≠[]) (hl:ls.length<=3) {N:Nat} {O:List (Bs×zu)} (h:OI m N O) (hN:N<=1000) :
  (if (lkG O o).isNone then z1p ls o (O++[(o,zu.mk o m [] 0)]) else z1p ls o O)=some (.inl (bsC m o ls O)):=by
 have key:∀ (O1:List (Bs×zu)) (b:zu),lkG O1 o=some b->b.Owner=o->b.Month=m->b.Lines.length<=3000->z1p ls o O1=some (.inl (ptG O1 o (addB m o ls b))):=λO1 b h1 h2 h3 h4=>by
  unfold z1p sumC;rw [h1];simp only [Option.bind_some];rw [if_pos (by omega),x3j];simp only [Option.bind_some];rw [h2,h3];rfl
 unfold bsC;rw [if_neg hls]
 cases hk:lkG O o with
 | none =>
  rw [if_pos (by rfl),← x4q hk,key _ (zu.mk o m [] 0) (by rw [z29,if_pos rfl]) rfl rfl (by simp),x4p];rfl
 | some b =>
  have:=h.o _ (z9d hk);rw [if_neg (by simp),key O b hk this.1.1 this.1.2 (by have:=this.2.1;simp only at this;omega)];rfl
def owA (apps:List zn) (a:Bs):Bs:=match at? apps (fdx (λx:zn=>decide (x.Key=a)) 0 apps) with|some x=>x.Owner|none=>[]
theorem x5a {apps:List zn} (hr:kr zn.Key apps) {x:zn} (hx:x∈apps):owA apps x.Key=x.Owner:=by
 obtain⟨i,hi⟩:=List.getElem?_of_mem hx;unfold owA;rw [x66 hr hi rfl,z1s,hi]
theorem w9s {apps:List zn} (ha:AB apps) (hr:kr zn.Key apps) {a:Bs} (h:hasA apps a=true):∃ r x,z05 apps a=some r/\at? apps r.1=some x/\x.Owner=owA apps a/\x.Owner.length<=1000:=by
 obtain⟨r,r1,r2,r3⟩:=x1m apps a (by have:=ha.1;omega) hr;obtain⟨h1,x,h2,h3,h4⟩:=y5g (λx:zn=>decide (x.Key=a)) apps h;refine⟨r,x,r1,by rw [r3 (by rw [r2];exact h)];exact h2,?_,?_⟩
 ·unfold owA;rw [h2]
 ·have:=ha.2 x (List.mem_of_getElem? h3);omega
def allK (c:zw) (apps:List zn):List zx:=apps.flatMap λa=>c.Products.map λp=>zx.mk a.Key p.Key
theorem w9t {c:zw} {apps:List zn} (h1:kr zn.Key apps) (h2:kr yl.Key c.Products):y50 (allK c apps):=by
 unfold allK y50;rw [List.pairwise_flatMap];refine⟨λa _=>?_,h1.imp λ{a b} hab x hx y hy=>?_⟩
 ·rw [List.pairwise_map];refine h2.imp λ{p q} hpq=>?_;unfold cK pK cmp2;simp only;rw [(ka a.Key a.Key).2 rfl];simpa using hpq
 ·obtain⟨p,_,rfl⟩:=List.mem_map.1 hx;obtain⟨q,_,rfl⟩:=List.mem_map.1 hy;unfold cK pK cmp2;simp only;rw [if_pos (by omega)];exact hab
theorem w9u {c:zw} {apps:List zn} {a p:Bs} (h1:hasA apps a=true) (h2:hasP c p=true):zx.mk a p∈allK c apps:=by
 unfold hasA at h1;unfold hasP at h2;obtain⟨x,x1,x2⟩:=List.any_eq_true.1 h1;obtain⟨y,y1,y2⟩:=List.any_eq_true.1 h2;have x2:x.Key=a:=by simpa using x2
 have y2:y.Key=p:=by simpa using y2
 subst x2;subst y2;exact List.mem_flatMap.2 ⟨x,x1,List.mem_map.2 ⟨y,y1,rfl⟩⟩
theorem x0c {α σ:Type} (F:σ->α->σ) (q:α->Bool):∀ (l:List α) (s:σ),(∀ x,x∈l->q x=false->∀ s,F s x=s)->l.foldl F s=(l.filter q).foldl F s
 | [],s,_=>rfl
 | x::l,s,h=>by
  rw [List.filter_cons];cases hq:q x
  ·rw [List.foldl_cons,h x (by simp) hq];simpa using x0c F q l s λy hy=>h y (by simp [hy])
  ·simp only [if_true,List.foldl_cons];exact x0c F q l _ λy hy=>h y (by simp [hy])
noncomputable def xq (c:zw) (apps:List zn) (l:List zj) (u:List zz) (m:Int) (O:List (Bs×zu)) (k:zx):List (Bs×zu):=bsC m (owA apps k.app_) (lnF c l u m k.app_ k.product_) O
end Go.Proofs.YtbpedjpoikmbjaaGreatDoor
