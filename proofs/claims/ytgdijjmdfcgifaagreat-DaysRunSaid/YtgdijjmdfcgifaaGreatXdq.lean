/- A day of calls, the document's way: the day's objects at its start. -/
import Derived.Test.YtgdijjmdfcgifaaGreatXdi4
namespace Go.Proofs.YtgdijjmdfcgifaaGreat
open Go.RowKit Go.ChangeMaps Go.MapKept
set_option linter.unusedVariables false
set_option maxRecDepth 100000
abbrev nilS:Value := .slice none 0 0
section
variable {P:Program} {X:Ctx} {Q:Exit→(Nat→Slot)→Own→Prop} {f:Nat→Slot} {own:Own} {c:Code}
theorem w16 (cs:List yf) (hT:∀ c,c∈cs→c.Tries=[]) (lf:List (Nat×Slot)) (lits:List (Nat×AObj)) (hs:jh lits=true) (hok:okL lf lits=true) (hf:subF f lf) (ho:subO own lits)
  (hk:AWP P X c Q (frs lf) (ows (lits++famT (fun _=>nilS) cs))):AWP P X c Q f own:=by
 intro g a w hr
 obtain ⟨g1,h1⟩:=hr.less lf lits hf ho hok
 have nds:=z5u hs
 have ndA:=Zb hs (wa (fh:=fun _=>nilS) (cs:=cs))
 let B:=famT (fun _=>nilS) cs
 have hBn:∀ i,i∈B.map (·.1)→ows lits i=none:=fun i hi=>by
  obtain ⟨p,hp,rfl⟩:=List.mem_map.1 hi
  refine jp.2 fun hm => ?_
  obtain ⟨q,hq,he⟩:=List.mem_map.1 hm
  have q1:=z80 hs hq
  have q2:=wa.big p hp
  omega
 let g':Gh:=⟨g1.bl,fun i k=>if i∈B.map (·.1)∧k=0 then some nilS else g1.sv i k⟩
 have hg:g1.le g':=⟨fun _ _ h=>h,fun i n v h=>by
  show (if _ then _ else _)=_
  rw [if_neg]
  ·exact h
  ·rintro ⟨hi,_⟩
   have:=(h1.fresh i (hBn i hi)).2 n
   rw [this] at h; cases h⟩
 have split:∀ id o,ows (lits++B) id=some (some o)→ows lits id=some (some o)∨((id,o)∈B∧∃ h,o=dT nilS h∧h=[]):=fun id o h=>by
  rcases List.mem_append.1 ((qg ndA).1 h) with h2 | h2
  ·exact .inl ((qg nds).2 h2)
  ·refine .inr ⟨h2,?_⟩
   obtain ⟨j,c0,q1,q2⟩:=z3j.1 h2
   cases q2
   exact ⟨_,rfl,hT c0 (List.mem_of_getElem? q1)⟩
 have inl:∀ id o,ows lits id=some (some o)→ows (lits++B) id=some (some o):=fun id o h=>(qg ndA).2 (List.mem_append_left _ ((qg nds).1 h))
 have hob:∀ id o b,ows (lits++B) id=some (some o)→obk g' id o=some b→ows lits id=some (some o)∧obk g1 id o=some b:=fun id o b h hb=>by
  rcases split id o h with h2 | ⟨_,l,rfl,_⟩
  ·exact ⟨h2,by rw [← (h1.ob id o h2).obk_eq hg]; exact hb⟩
  ·cases hb
 have hM:∀ b,Mof X g' (ows (lits++B)) b↔Mof X g1 (ows lits) b:=fun b=>by
  constructor
  ·rintro (h | ⟨id,o,q1,q2⟩)
   ·exact .inl h
   ·obtain ⟨q3,q4⟩:=hob id o b q1 q2
    exact .inr ⟨id,o,q3,q4⟩
  ·rintro (h | ⟨id,o,q1,q2⟩)
   ·exact .inl h
   ·exact .inr ⟨id,o,inl id o q1,by rw [(h1.ob id o q1).obk_eq hg]; exact q2⟩
 have he:Ext (Mof X g1 (ows lits)) (Mof X g' (ows (lits++B))) w w:=⟨Nat.le_refl _,fun _ _ _ _=>rfl,fun b _ h=>(hM b).1 h⟩
 refine hk g' a w ⟨h1.kp,h1.m0,h1.n,h1.df,fun t=>(h1.fr t).keep he hg,fun id o h => ?_,fun id id' o o' b q1 q2 q3 q4 => ?_,fun id o b q1 q2 => ?_,fun id h => ?_,fun id e size es h k hkk => ?_⟩
 ·rcases split id o h with h2 | ⟨h2,l,rfl,rfl⟩
  ·exact (h1.ob id o h2).keep he hg fun _ _=>rfl
  ·refine ⟨[],if_pos ⟨List.mem_map.2 ⟨_,h2,rfl⟩,rfl⟩,⟨rfl,.inl ⟨rfl,rfl⟩⟩,by decide,fun el hel=>by simp at hel,fun k c el u hk=>by simp at hk⟩
 ·obtain ⟨r1,r2⟩:=hob id o b q1 q3
  obtain ⟨r3,r4⟩:=hob id' o' b q2 q4
  exact h1.sep id id' o o' b r1 r3 r2 r4
 ·obtain ⟨r1,r2⟩:=hob id o b q1 q2
  exact h1.mine id o b r1 r2
 ·have h2:=jp.1 h
  rw [List.map_append,List.mem_append,not_or] at h2
  have h3:=h1.fresh id (jp.2 h2.1)
  refine ⟨h3.1,fun n => ?_⟩
  show (if _ then _ else _)=_
  rw [if_neg fun hh=>h2.2 hh.1]
  exact h3.2 n
 ·rcases split id _ h with h2 | ⟨_,l,h3,_⟩
  ·show (if _ then _ else _)=_
   rw [if_neg]
   ·exact h1.top id e size es h2 k hkk
   ·rintro ⟨_,rfl⟩
    omega
  ·cases h3
theorem w1v (id:Nat) {e:TypeId} {size:Nat} {es:List (List V)} {hv:Value} (es':List (List V)) (ho:own id=some (some (.rowA hv e size es))) (hl:es'.length=es.length)
  (hw:∀ (k:Nat) (el':List V),es'[k]?=some el'→∃ el:List V,es[k]?=some el∧el'.length=el.length∧∀ (j:Nat) (u':V),el'[j]?=some u'→∃ u:V,el[j]?=some u∧∀ (w:World) (M:Blks) (v:Value),u.p w M v→v.oneCell'=true→u'.p w M v)
  (h:AWP P X c Q f (upl own [(id,some (some (.rowA hv e size es')))])):AWP P X c Q f own:=by
 intro g a w hr
 obtain ⟨xs,q1,q2,q3,q4,q5⟩:=hr.ob id _ ho
 refine h g a w (hr.re1 id ho rfl (fun M' he=>⟨xs,by rw [hl]; exact q1,by rw [hl]; exact q2,q3,fun el hel => ?_,fun k j el u hk hj => ?_⟩) (fun e size es h=>by cases h))
 ·obtain ⟨k,hk⟩:=List.getElem?_of_mem hel
  obtain ⟨el0,h1,h2,_⟩:=hw k el hk
  rw [h2]; exact q4 el0 (List.mem_of_getElem? h1)
 ·obtain ⟨el0,h1,_,h3⟩:=hw k el hk
  obtain ⟨u0,h4,h5⟩:=h3 j u hj
  obtain ⟨x,p1,p2,p3⟩:=q5 k j el0 u0 h1 h4
  exact ⟨x,p1,h5 _ _ _ (u0.keep he p2) p3,p3⟩
end
theorem x47 {P:Program} {o:Oper} {f:Nat→Slot} {id:Nat} {t:TypeId} {cs:List Slot} {rd wr:List (Nat×Option (Option AObj))} (h:Stp P o f ⟨false,rd,(id,some (some (.box none t cs)))::wr,.ptr id 0⟩) :
  StpI P o f rd (fun b:Nat => .dat (vval (PB b))) (fun b=>(id,some (some (.box (some b) t cs)))::wr):=by
 intro X f' own g a w Q hr hd hx hrd K hK
 refine h X f' own g a w Q hr hd hx hrd K fun g' v w' hR => ?_
 have up:∀ q,upl own ((id,q)::wr) id=q:=fun q=>by
  show cond (Nat.beq id id) _ _=_
  rw [show Nat.beq id id=true by simp]; rfl
 have un:∀ q i,i≠id→upl own ((id,q)::wr) i=upl own wr i:=fun q i hi=>by
  show cond (Nat.beq i id) _ _=_
  rw [qu hi]; rfl
 have ho:upl own ((id,some (some (.box none t cs)))::wr) id=some (some (.box none t cs)):=up _
 obtain ⟨b,l,q1,q0,q2⟩:=hR.ob id _ ho
 refine hK b g' v w' ?_
 refine hR.view (id:=id) (an2:=some b) ho ?_ (fun q hq b' hb'=>by cases hq; rw [q1] at hb'; exact Option.some.inj hb') fun k v hv => ?_
 ·funext i
  by_cases hi:i=id
  ·subst hi; rw [je,up]
  ·rw [jb hi,un _ _ hi,un _ _ hi]
 ·refine y5j (fun v hv => ?_) k v hv
  obtain ⟨b',h1,h2⟩:=hv
  rw [q1] at h1; cases h1
  exact h2
theorem w14 {P:Program} {X:Ctx} {Q:Exit→(Nat→Slot)→Own→Prop} {f:Nat→Slot} {own:Own} {c:Code} (t:Nat) (u:V) (R:List (Nat×AObj)) (hoR:∀ p,p∈R→own p.1=some (some p.2))
  (hu:∀ (g:Gh) (w:World) (M M':Blks) (v:Value),Ext M M' w w→(∀ p,p∈R→RepO g w M p.1 p.2∧∀ b,obk g p.1 p.2=some b→¬ M' b)→RepS g w M (f t) v→u.p w M' v)
  (h:AWP P X c Q (updS (frs []) (some t) (.dat u)) (ows [])):AWP P X c Q f own:=by
 intro g a w hr
 obtain ⟨g',hr'⟩:=hr.less [] [] trivial trivial rfl
 have he:Ext (Mof X g own) (Mof X g' (ows [])) w w:=⟨Nat.le_refl _,fun _ _ _ _=>rfl,fun b _ hb=>by
  rcases hb with hb | ⟨id,o,h1,h2⟩
  ·exact .inl hb
  ·cases h1⟩
 refine h g' a w ⟨hr'.kp,hr'.m0,hr'.n,hr'.df,fun t' => ?_,hr'.ob,hr'.sep,hr'.mine,hr'.fresh,hr'.top⟩
 by_cases htt:t'=t
 ·subst htt
  have:Nat.beq t' t'=true:=by simp
  simp only [updS,this,cond_true]
  refine hu g w _ _ _ he (fun p hp=>⟨hr.ob _ _ (hoR p hp),fun b hb hM => ?_⟩) (hr.fr t')
  rcases hM with hM | ⟨id,o,h1,h2⟩
  ·have h5:=hr.m0.1 b hM
   rcases hr.mine _ _ b (hoR p hp) hb with h6 | h6
   ·exact h5.2 h6
   ·omega
  ·cases h1
 ·simp only [updS,qu htt,cond_false]
  exact hr'.fr t'
theorem x6l {g:Gh} {w:World} {M M':Blks} {ho:Value} {fh:Nat→Value} {outs:List yf} (he:Ext M M' w w) (h:RepO g w M 2 (.rowA ho 84 4 (outE fh outs))) (hM:∀ b,ho.ownBlock=some b→¬ M' b)
  (hF:∀ p,p∈famT fh outs→RepO g w M p.1 p.2∧∀ b,obk g p.1 p.2=some b→¬ M' b):(vlst (List.map wx outs)).p w M' ho:=by
 obtain ⟨xs,q1,q2,q3,q4,q5⟩:=h
 have hl:(outE fh outs).length=(List.map wx outs).length:=by rw [wh,List.length_map]
 rcases q2.2 with ⟨rfl,hn⟩ | ⟨b,cap,cur,rfl,_,hb,hnc,_,hcs,htk⟩
 ·have:outs=[]:=List.eq_nil_of_length_eq_zero (by rw [wh] at hn; exact hn)
  subst this
  exact ⟨none,0,rfl,Nat.le_refl _,fun h=>absurd rfl h⟩
 ·refine ⟨_,cap,by rw [hl],by rw [← hl]; exact hnc,fun _=>⟨b,0,4,rfl,hM b rfl,cur,_,(0,0),hb,fun el hel => ?_,fun k c el u hk hc => ?_⟩⟩
  ·obtain ⟨o,_,rfl⟩:=List.mem_map.1 hel; rfl
  ·rw [List.getElem?_map] at hk
   obtain ⟨o,hk1,rfl⟩:=Option.map_eq_some_iff.1 hk
   have hel:=z9n (fh:=fh) hk1
   have fin:∀ (u0:V),[vstr o.Call,vhd (fh k),vint o.Done,vint o.Status][c]?=some u0→(∀ x,u0.p w M x→u.p w M' x)→∃ x,cur[0+(k * 4+c)]?=some x∧u.p w M' x∧x.oneCell'=true:=fun u0 h0 hu=>by
    obtain ⟨x,r1,r2,r3⟩:=q5 k c _ u0 hel h0
    refine ⟨x,?_,hu x r2,r3⟩
    rw [← htk,List.getElem?_take] at r1
    split at r1
    ·rw [Nat.zero_add]; simpa using r1
    ·cases r1
   match c,hc with
   | 0,hc=>cases hc; exact fin _ rfl fun x hx=>V.keep _ he hx
   | 1,hc =>
    cases hc
    refine fin _ rfl fun x hx => ?_
    obtain rfl:x=fh k:=hx.1
    have hp:=hF (4 * k+1000,dT (fh k) o.Tries) (z3j.2 ⟨k,o,hk1,rfl⟩)
    exact z5y he hp.1 hp.2
   | 2,hc=>cases hc; exact fin _ rfl fun x hx=>V.keep _ he hx
   | 3,hc=>cases hc; exact fin _ rfl fun x hx=>V.keep _ he hx
   | c+4,hc=>simp at hc
def out0 (c:yi):yf:=⟨c.Id,[],0,0⟩
abbrev OC0 (c:yi):List V:=[vstr c.Id,vnil,vint 0,vint 0]
theorem x6t (cl:List yi) (k:Nat) (el':List V) (h:(outE (fun _=>nilS) (cl.map out0))[k]?=some el'):∃ el:List V,(List.map OC0 cl)[k]?=some el∧el'.length=el.length∧∀ (j:Nat) (u':V),el'[j]?=some u'→∃ u:V,el[j]?=some u∧∀ (w:World) (M:Blks) (v:Value),u.p w M v→v.oneCell'=true→u'.p w M v:=by
 rw [List.getElem?_mapIdx,List.getElem?_map] at h
 cases hc:cl[k]? with
 | none=>rw [hc] at h; cases h
 | some c =>
  rw [hc] at h
  cases h
  refine ⟨OC0 c,by rw [List.getElem?_map,hc]; rfl,rfl,fun j u' hj => ?_⟩
  match j,hj with
  | 0,hj=>cases hj; exact ⟨_,rfl,fun _ _ _ h _=>h⟩
  | 1,hj=>cases hj; exact ⟨_,rfl,fun _ _ _ h h1=>⟨h,h1⟩⟩
  | 2,hj=>cases hj; exact ⟨_,rfl,fun _ _ _ h _=>h⟩
  | 3,hj=>cases hj; exact ⟨_,rfl,fun _ _ _ h _=>h⟩
  | j+4,hj=>simp at hj
end Go.Proofs.YtgdijjmdfcgifaaGreat
