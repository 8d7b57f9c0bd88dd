/- A day of calls: calls that come one by one; what is written at the end. -/
import Derived.Test.YtgdijjmdfcgifaaGreatXdh6
namespace Go.Proofs.YtgdijjmdfcgifaaGreat
open Go.RowKit Go.ChangeMaps Go.MapKept
set_option linter.unusedVariables false
set_option maxRecDepth 100000
noncomputable def z3i (k:Nat) (c:yj) (s:List yf):Option (List yf ⊕ List yf):=if s.length≤1000000 then some (.inl (s++[c.out_])) else none
noncomputable def y76 (s:List yf):Option (List yf):=some s
theorem y74:∀ (cs:List yj) (k:Nat) (s:List yf),s.length+cs.length≤1000000→forL z3i y76 k cs s=some (s++cs.map (·.out_))
 | [],k,s,_=>by show some s=_; rw [List.map_nil,List.append_nil]
 | c::cs,k,s,h=>by
  show (z3i k c s).bind _=_
  unfold z3i
  rw [List.length_cons] at h
  rw [if_pos (by omega)]
  show forL z3i y76 (k+1) cs (s++[c.out_])=_
  rw [y74 cs (k+1) (s++[c.out_]) (by rw [List.length_append]; simp; omega)]
  simp
theorem w02 {fb fm:Nat→Nat} {fh:Nat→Value} {p:Nat×AObj} (h:p∈famC fb fm fh []):False:=by
 obtain ⟨j,c,h1,_⟩:=Yp.1 h
 simp at h1
theorem y7p {a:Int} {b:Bool} (w:World) (M M':Blks) (v:Value) (h:(zu [vint a,zn b]).p w M v):(zu [vint a,zn b]).p w M' v:=by
 obtain ⟨l,rfl,h1,h2⟩:=h
 refine ⟨l,rfl,h1,fun j u hj => ?_⟩
 obtain ⟨y,q1,q2⟩:=h2 j u hj
 refine ⟨y,q1,?_⟩
 match j,hj with
 | 0,hj=>cases hj; exact q2
 | 1,hj=>cases hj; exact q2
 | j+2,hj=>simp at hj
theorem z8s {α β:Type} {l:List α} {k:Nat} {x:α} (g:α→β) (hx:l[k]?=some x):(l.take (k+1)).map g=(l.take k).map g++[g x]:=by
 rw [List.take_add_one,hx]; simp
theorem x58 (fb:Nat→Nat) (n b:Nat):(List.range (n+1)).map (fx fb n b)=(List.range n).map fb++[b]:=by
 rw [List.range_succ,List.map_append]
 congr 1
 ·refine List.map_congr_left fun i hi => ?_
  have:=List.mem_range.1 hi
  exact y39 (by omega)
 ·simp [fx]
section
variable {P:Program} {X:Ctx} {Q:Exit→(Nat→Slot)→Own→Prop} {f:Nat→Slot} {own:Own} {c:Code}
theorem y1g (id:Nat) {an:Option Nat} {R:Obj→Prop} (ho:own id=some (some (.opq an R))) (h:∀ b,AWP P X c Q f (upl own [(id,some (some (.opq (some b) R)))])):AWP P X c Q f own:=by
 intro g a w hr
 obtain ⟨b,o,h1,h2,h3,h4⟩:=hr.ob id _ ho
 exact h b g a w (hr.re1 id ho rfl (fun M' he=>⟨b,o,h1,fun q hq=>by cases hq; rfl,h3,h4⟩) (fun e size es h=>by cases h))
theorem w1z {fb fm:Nat→Nat} {fh:Nat→Value} {cs cs':List yj} {n b m:Nat} {h:Value} {c0:yj} (lf:List (Nat×Slot)) (lits:List (Nat×AObj)) (hn:cs.length=n) (hcs:cs'=cs++[c0]) (hs:jh lits=true) (hok:okL5 1000 lf lits=true) (hno:(lits.all fun p => !(Nat.ble 50 p.1 && Nat.ble p.1 52))=true)
  (hf:subF f lf) (ho:subO own lits) (h0:own 50=some (some (oC b m h c0))) (h1:own 51=some (some (oM m c0))) (h2:own 52=some (some (oR h c0))) (hB:∀ p,p∈famC fb fm fh cs→own p.1=some (some p.2))
  (hk:AWP P X c Q (frs lf) (ows (lits++famC (fx fb n b) (fx fm n m) (fxV fh n h) cs'))):AWP P X c Q f own:=by
 intro g a w hr
 subst hn
 have hmem:∀ p,p∈famC (fx fb cs.length b) (fx fm cs.length m) (fxV fh cs.length h) cs'→(p=(4 * cs.length+1000,oC b m h c0)∨p=(4 * cs.length+1001,oM m c0)∨p=(4 * cs.length+1002,oR h c0))∨(p∈famC fb fm fh cs∧p.1 < 4 * cs.length+1000):=fun p hp=>by
  obtain ⟨j,c1,q1,q2⟩:=Yp.1 hp
  subst hcs
  rcases Nat.lt_or_ge j cs.length with hl | hl
  ·rw [List.getElem?_append_left hl] at q1
   rw [y39 (by omega),y39 (by omega),z4r (by omega)] at q2
   refine .inr ⟨Yp.2 ⟨j,c1,q1,q2⟩,?_⟩
   rcases q2 with rfl | rfl | rfl <;> simp only <;> omega
  ·rw [List.getElem?_append_right hl] at q1
   have hj:j - cs.length=0:=by have:=(List.getElem?_eq_some_iff.1 q1).1; simp at this; omega
   rw [hj] at q1
   cases q1
   obtain rfl:j=cs.length:=by omega
   rw [y95,y95,y05] at q2
   exact .inl q2
 let σ:Nat→Nat:=fun i=>if i=4 * cs.length+1000 then 50 else if i=4 * cs.length+1001 then 51 else if i=4 * cs.length+1002 then 52 else i
 have hlo:∀ p,p∈lits→p.1 < 1000∧(p.1 < 50∨52 < p.1):=fun p hp=>by
  have q1:=z80 hs hp
  have q2:=List.all_eq_true.1 hno p hp
  refine ⟨q1,?_⟩
  rcases Nat.lt_or_ge p.1 50 with h | h
  ·exact .inl h
  ·rcases Nat.lt_or_ge 52 p.1 with h' | h'
   ·exact .inr h'
   ·rw [Nat.ble_eq_true_of_le h,Nat.ble_eq_true_of_le h'] at q2; cases q2
 have hsig:∀ i,i < 4 * cs.length+1000→σ i=i:=fun i hi=>by
  show (if _ then _ else _)=_
  rw [if_neg (by omega),if_neg (by omega),if_neg (by omega)]
 have key:∀ p,p∈lits++famC (fx fb cs.length b) (fx fm cs.length m) (fxV fh cs.length h) cs'→own (σ p.1)=some (some p.2):=fun p hp=>by
  rcases List.mem_append.1 hp with hp | hp
  ·rw [hsig _ (by have:=hlo p hp; omega)]
   exact ua.1 ho p hp
  ·rcases hmem p hp with (rfl | rfl | rfl) | ⟨hp,hl⟩
   ·show own (σ (4 * cs.length+1000))=_
    rw [show σ (4 * cs.length+1000)=50 from if_pos rfl]; exact h0
   ·show own (σ (4 * cs.length+1001))=_
    rw [show σ (4 * cs.length+1001)=51 from by show (if _ then _ else _)=_; rw [if_neg (by omega),if_pos rfl]]; exact h1
   ·show own (σ (4 * cs.length+1002))=_
    rw [show σ (4 * cs.length+1002)=52 from by show (if _ then _ else _)=_; rw [if_neg (by omega),if_neg (by omega),if_pos rfl]]; exact h2
   ·rw [hsig _ hl]
    exact hB p hp
 have hids:∀ i,i∈(lits++famC (fx fb cs.length b) (fx fm cs.length m) (fxV fh cs.length h) cs').map (·.1)→(i < 50∨52 < i):=fun i hi=>by
  obtain ⟨p,hp,rfl⟩:=List.mem_map.1 hi
  rcases List.mem_append.1 hp with hp | hp
  ·exact (hlo p hp).2
  ·have:=qw.big p hp
   omega
 obtain ⟨k1,k2⟩:=y8f hok (qw (fb:=fx fb cs.length b) (fm:=fx fm cs.length m) (fh:=fxV fh cs.length h) (cs:=cs'))
 obtain ⟨g',hr',_⟩:=hr.renX 1000 σ lf (lits++famC (fx fb cs.length b) (fx fm cs.length m) (fxV fh cs.length h) cs') hf key (Zb hs qw) (fun i k hi hk e=>by
  have q1:=hids i hi
  have q2:=hids k hk
  revert e
  show (if _ then _ else _)=(if _ then _ else _)→_
  split <;> split <;> (try split) <;> (try split) <;> (try split) <;> (try split) <;> omega) (fun id hid=>hsig id (by have:=(w0q hid).1; omega)) k1 k2
 exact hk g' a w hr'
end
end Go.Proofs.YtgdijjmdfcgifaaGreat
