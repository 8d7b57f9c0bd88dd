import Derived.Test.YtbpedjpoikmbjaaGreatDoorMc
import Derived.RangeFuncNested
import Derived.RangeFuncLeaves
namespace Go.Proofs.YtbpedjpoikmbjaaGreatDoor
open Go.RowKit
set_option linter.unusedVariables false

section plain
variable {α σ ρ:Type}
def back (body:Nat->α->σ->Option (σ ⊕ ρ)) (fin:σ->Option ρ) (l:List α):Nat->σ->Option ρ
 | 0,s=>fin s
 | n+1,s=>(l[n]?).bind λx=>(body n x s).bind (after (back body fin l n))
end plain

def vand (u:V) (c:Value):V:=⟨λw M v=>v=c/\u.p w M v,u.one,λe ⟨h1,h2⟩=>⟨h1,u.keep e h2⟩,λh _ _ _ ⟨_,h2⟩=>u.hone h h2⟩
theorem x2b (u:V) (c:Value):Wk (vand u c) u:=λ_ _ _ h=>h.2
section
variable {P:Program} {f:Nat->Slot} {dst:Option Tmp} {ty:TypeId} {pos:String} {af:Array Edge} {gd:Option (Nat×Bool)}
theorem y2h {t:TypeId} {n:Nat} {p:Operand} {es:List (List V)} {k c:Nat} {el:List V} {u u0:V} (ht:tyS P t=some (false,n)) (hp:evS f p = .dat u0) (hw:Wk u0 (qn es k c)) (he:es[k]?=some el) (hu:el[c]?=some u) :
  Stp P ⟨dst,.load t p,ty,pos,af,gd⟩ f ⟨false,[],[],.dat u⟩:=by
 refine vt λX own g a w h=>?_;have h2:=h p (by simp [Op.operands]);rw [hp] at h2;obtain⟨b,off,size,h3,hM,arr,e,fz,h4,h5,h6⟩:=hw _ _ _ h2;obtain⟨x,r1,r2,r3⟩:=h6 k c el u he hu;refine⟨x,?_,r2⟩;have hc:w.cell? ⟨b,off+k*size+c,none⟩=some x:=by rw [cell_of_row w b _ _ _ _ h4];exact r1
 simp [execOp,h3,z82 (b:=true) ht w _ x hc]
end

def boxB:AObj->Bool
 | .box _ _ _=>true
 | .row _ _ _=>true
 | _=>false
def isBx:AObj->Bool
 | .box _ _ _=>true
 | _=>false
theorem x7m {g:Gh} {w:World} {M:Blks} {id:Nat} {o:AObj} {b:Nat} (h:RepO g w M id o) (ho:boxB o=true) (hb:obk g id o=some b):∃ cs t fz,w.heap[b]?=some (.cells cs t fz):=by
 cases o with
 | box an t cs =>
  obtain⟨b',lv,q1,_,q2,_⟩:=h;simp only [obk] at hb;rw [q1] at hb;obtain rfl:b'=b:=by injection hb
  exact⟨_,_,_,q2⟩
 | row e size es =>
  obtain⟨v,xs,q1,q2,_⟩:=h;simp only [obk,q1,Option.bind_some] at hb;rcases q2.2 with hn|⟨q,cap,cur,hv,hbb,hq,hr⟩
  ·rw [hn.1] at hb;cases hb
  ·rw [hv] at hb
   obtain rfl:q=b:=by
    have:some q=some b:=hb;injection this
   exact⟨_,_,_,hq⟩
 | opq _ _=>cases ho
 | rowA _ _ _ _=>cases ho
theorem Rel.putCtl {X:Ctx} {f:Nat->Slot} {lo:List (Nat×AObj)} {g:Gh} {a:Act} {w:World} {l:Nat} {o:Obj} (h:Rel X f (ows lo) g a w) (hb:lo.all (λp=>boxB p.2)=true) (o':Obj) (hl:w.heap[l]?=some o) (ho:Zz o=false) (hw:X.w0.heap.size<=l):Rel X f (ows lo) g a (w.putObj l o'):=by
 have hlt:=vh hl;have hoth:∀ b,b≠l->(w.putObj l o').heap[b]?=w.heap[b]?:=λb hb=>World.putObj_heap_other hb
 have hcell:∀ b cs t fz,w.heap[b]?=some (.cells cs t fz)->b≠l:=λb cs t fz h1 e=>by
  subst e;rw [hl] at h1;cases h1;cases ho
 have he:Ext (Mof X g (ows lo)) (Mof X g (ows lo)) w (w.putObj l o'):=⟨by simp,λb _ _ ⟨o1,h1,h2⟩=>hoth b (λe=>by subst e;rw [hl] at h1;cases h1;rw [ho] at h2;cases h2),λb _ h=>h⟩
 have hbox:∀ id o,ows lo id=some (some o)->boxB o=true:=λid o h1=>by
  have:∀ l:List (Nat×AObj),l.all (λp=>boxB p.2)=true->ows l id=some (some o)->boxB o=true:=by
   intro l
   induction l with
   | nil=>intro _ h;cases h
   | cons p l ih =>
    obtain⟨k,q⟩:=p;intro hl h2;simp only [List.all_cons,Bool.and_eq_true] at hl;have h2:cond (Nat.beq id k) (some (some q)) (ows l id)=some (some o):=h2
    by_cases hk:id=k
    ·subst hk;have:Nat.beq id id=true:=by simp
     rw [this] at h2;cases h2;exact hl.1
    ·rw [qz hk] at h2;exact ih hl.2 h2
  exact this lo hb h1
 refine⟨⟨h.kp.os,h.kp.tape,h.kp.output,by simpa using h.kp.size,λk hk hn=>(hoth k (by omega)).trans (h.kp.block k hk hn)⟩,h.m0,h.n,h.df,λt=>(h.fr t).keep he (Gh.le_refl g),λid q h1=>?_,h.sep,h.mine,h.fresh,h.top⟩;refine (h.ob id q h1).keep he (Gh.le_refl g) λb hb'=>?_;have h2:=hbox id q h1;have h3:=h.ob id q h1;obtain⟨cs,t,fz,h4⟩:=x7m h3 h2 hb';exact hoth b (hcell b _ _ _ h4)

def blks (g:Gh) (lo:List (Nat×AObj)):List Nat:=lo.filterMap λp=>obk g p.1 p.2
theorem Zm {g:Gh} {lo:List (Nat×AObj)} {b:Nat}:b∈blks g lo↔∃ i o,(i,o)∈lo/\obk g i o=some b:=by
 unfold blks;rw [List.mem_filterMap];constructor
 ·rintro⟨⟨i,o⟩,h1,h2⟩;exact⟨i,o,h1,h2⟩
 ·rintro⟨i,o,h1,h2⟩;exact⟨(i,o),h1,h2⟩
theorem uq {lo:List (Nat×AObj)} (nd:ndB (lo.map (·.1))=true) {i:Nat} {o:AObj}:ows lo i=some (some o)↔(i,o)∈lo:=ug (xe nd)
def Yj (X:Ctx) (g:Gh) (lo:List (Nat×AObj)) (w:World) (R:Option Nat) (D:List Deferred):Ctx:=⟨X.M0,w,blks g lo,X.N,R,D⟩
theorem Rel.here {X:Ctx} {f f':Nat->Slot} {lo:List (Nat×AObj)} {g:Gh} {a a':Act} {w:World} (h:Rel X f (ows lo) g a w) (nd:ndB (lo.map (·.1))=true) (R:Option Nat) (D:List Deferred) (hN:a'.tmps.size=X.N) (hD:a'.defers=D) (hf:∀ t,RepS g w (Mof X g (ows lo)) (f' t) (a'.tmps.getD t undef)) :
  Rel (Yj X g lo w R D) f' (ows lo) g a' w:=by
 have hmine:∀ b,b∈blks g lo->b∈X.S0∨X.w0.heap.size<=b:=λb hb=>by
  obtain⟨i,o,h1,h2⟩:=Zm.1 hb;exact h.mine i o b ((uq nd).2 h1) h2
 refine⟨Kp.refl _ _,⟨λb hb=>⟨?_,λhm=>?_⟩,h.mlt.2.1,λb hb=>⟨λhm=>h.mlt.2.2 b hb (.inl hm),λhm=>?_⟩⟩,hN,hD,hf,h.ob,h.sep,λid o b h1 h2=>.inl (Zm.2 ⟨id,o,(uq nd).1 h1,h2⟩),h.fresh,h.top⟩
 ·exact Nat.lt_of_lt_of_le (h.m0.1 b hb).1 h.kp.size
 ·rcases hmine b hm with h1|h1
  ·exact (h.m0.1 b hb).2 h1
  ·have:=(h.m0.1 b hb).1;omega
 ·obtain⟨i,o,h1,h2⟩:=Zm.1 hm;exact h.mlt.2.2 b hb (.inr ⟨i,o,(uq nd).2 h1,h2⟩)

abbrev Bx:=List (Nat×AObj)
def anB (a:Nat):AObj->AObj
 | .box _ t cs=>.box (some a) t cs
 | o=>o
def mkB (A:Nat->Nat) (l:Bx):List (Nat×AObj):=l.map λp=>(p.1,anB (A p.1) p.2)
def kyB (p:Nat×AObj):Nat×Bool:=(p.1,isBx p.2)
theorem z2p (A:Nat->Nat) {l:Bx} (h:l.all (λp=>boxB p.2)=true):(mkB A l).all (λp=>boxB p.2)=true:=by
 unfold mkB;rw [List.all_map,List.all_eq_true];rintro⟨i,o⟩ hp;have:=List.all_eq_true.1 h _ hp;cases o <;> exact this
theorem Wl (A:Nat->Nat) (l:Bx):(mkB A l).map (·.1)=l.map (·.1):=by unfold mkB;rw [List.map_map];rfl
theorem w29 {A:Nat->Nat} {l:Bx} (nd:ndB (l.map (·.1))=true) {id:Nat} {o:AObj} (h:ows (mkB A l) id=some (some o)):∃ o0,o=anB (A id) o0/\(id,o0)∈l:=by
 have h1:=(uq (by rw [Wl];exact nd)).1 h;unfold mkB at h1;obtain⟨⟨i,o0⟩,h2,h3⟩:=List.mem_map.1 h1;cases h3;exact⟨o0,rfl,h2⟩
theorem x5j {A:Nat->Nat} {l:Bx} (nd:ndB (l.map (·.1))=true) {id:Nat} {o0:AObj} (h:(id,o0)∈l):ows (mkB A l) id=some (some (anB (A id) o0)):=by
 refine (uq (by rw [Wl];exact nd)).2 ?_;unfold mkB;exact List.mem_map.2 ⟨_,h,rfl⟩
theorem y8o {g:Gh} {id a:Nat} {o:AObj}:obk g id (anB a o)=obk g id o:=by cases o <;> rfl
def simS (l:Bx):Slot->Bool
 | .dat _=>true
 | .ptr id _=>l.any λp=>Nat.beq p.1 id && isBx p.2
 | _=>false
theorem w7s {l0:Bx} {lf:List (Nat×Slot)} (h:lf.all (λp=>simS l0 p.2)=true) (t:Nat):frs lf t = .any∨simS l0 (frs lf t)=true:=by
 induction lf with
 | nil=>exact .inl rfl
 | cons p lf ih =>
  obtain⟨k,s⟩:=p;simp only [List.all_cons,Bool.and_eq_true] at h;show cond (Nat.beq t k) s (frs lf t) = .any∨simS l0 (cond (Nat.beq t k) s (frs lf t))=true
  by_cases hk:t=k
  ·subst hk;have:Nat.beq t t=true:=by simp
   rw [this];exact .inr h.1
  ·rw [qz hk];exact ih h.2

theorem Rel.rebase {X:Ctx} {f0 f':Nat->Slot} {lo:List (Nat×AObj)} {own':Own} {g g':Gh} {a a':Act} {w w':World} {R:Option Nat} {D:List Deferred} (h:Rel X f0 (ows lo) g a w) (nd:ndB (lo.map (·.1))=true) (h':Rel (Yj X g lo w R D) f' own' g' a' w') :
  Rel { X with R:=R,D:=D } f' own' g' a' w':=by
 have hbk:∀ b,b∈blks g lo->b∈X.S0∨X.w0.heap.size<=b:=λb hb=>by
  obtain⟨i,o,h1,h2⟩:=Zm.1 hb;exact h.mine i o b ((uq nd).2 h1) h2
 refine⟨h.kp.trans h'.kp hbk,h.m0,h'.n,h'.df,h'.fr,h'.ob,h'.sep,λid o b h1 h2=>?_,h'.fresh,h'.top⟩;rcases h'.mine id o b h1 h2 with h4|h4
 ·exact hbk b h4
 ·exact .inr (Nat.le_trans h.kp.size h4)
theorem Rel.setD {X:Ctx} {f:Nat->Slot} {own:Own} {g:Gh} {a:Act} {w:World} {R:Option Nat} {D:List Deferred} (h:Rel { X with R:=R,D:=D } f own g a w) (D':List Deferred) (hD:D'=X.D):Rel X f own g { a with defers:=D' } w:=
 ⟨h.kp,h.m0,h.n,hD,h.fr,h.ob,h.sep,h.mine,h.fresh,h.top⟩
theorem Rel.out {X Y:Ctx} {lf:List (Nat×Slot)} {A:Nat->Nat} {l l':Bx} {g g3:Gh} {a a':Act} {w w':World} {f':Nat->Slot}
  (h:Rel X (frs lf) (ows (mkB A l)) g a w) (h3:Rel Y f' (ows (mkB A l')) g3 a' w') (hM0:Y.M0=X.M0) (hsz:w.heap.size<=w'.heap.size) (hkpX:Kp X.S0 X.w0 w')
  (hkp:∀ b,b < w.heap.size->b ∉ blks g (mkB A l)->(∃ o,w.heap[b]?=some o/\Zz o=true)->w'.heap[b]?=w.heap[b]?)
  (hmine:∀ id o b,ows (mkB A l') id=some (some o)->obk g3 id o=some b->b∈blks g (mkB A l)∨w.heap.size<=b)
  (nd:ndB (l.map (·.1))=true) (nd':ndB (l'.map (·.1))=true) (hk:l'.map kyB=l.map kyB) (hsim:lf.all (λp=>simS l p.2)=true) :
  Rel X (frs lf) (ows (mkB A l')) g3 a w':=by
 have hbk:∀ b,b∈blks g (mkB A l)->∃ i o,ows (mkB A l) i=some (some o)/\obk g i o=some b:=λb hb=>by
  obtain⟨i,o,h1,h2⟩:=Zm.1 hb;exact⟨i,o,(uq (by rw [Wl];exact nd)).2 h1,h2⟩
 have hMeq:∀ b,Mof X g3 (ows (mkB A l')) b↔Mof Y g3 (ows (mkB A l')) b:=λb=>by unfold Mof;rw [hM0]
 have he:Ext (Mof X g (ows (mkB A l))) (Mof X g3 (ows (mkB A l'))) w w':=by
  refine⟨hsz,λb hb hM hc=>hkp b hb (λhm=>?_) hc,λb hb hM=>?_⟩
  ·obtain⟨i,o,h1,h2⟩:=hbk b hm;exact hM (.inr ⟨i,o,h1,h2⟩)
  ·rcases hM with hM|⟨i,o,h1,h2⟩
   ·exact .inl hM
   ·rcases hmine i o b h1 h2 with h4|h4
    ·obtain⟨i',o',h5,h6⟩:=hbk b h4;exact .inr ⟨i',o',h5,h6⟩
    ·omega
 have heY:Ext (Mof Y g3 (ows (mkB A l'))) (Mof X g3 (ows (mkB A l'))) w' w':=⟨Nat.le_refl _,λ_ _ _ _=>rfl,λb _ hb=>(hMeq b).1 hb⟩
 refine⟨hkpX,h.m0,h.n,h.df,λt=>?_,λid o h1=>(h3.ob id o h1).keep heY (Gh.le_refl g3) (λ_ _=>rfl),h3.sep,λid o b h1 h2=>?_,h3.fresh,h3.top⟩
 ·have h4:=h.fr t;rcases w7s hsim t with h5|h5
  ·rw [h5];trivial
  ·cases hq:frs lf t with
   | dat u=>rw [hq] at h4;exact u.keep he h4
   | ptr id off =>
    rw [hq] at h4;obtain⟨b,h6,h7⟩:=h4;refine⟨b,?_,h7⟩
    have hid:∃ an t cs,(id,AObj.box an t cs)∈l:=by
     rw [hq] at h5;obtain⟨⟨i,o⟩,h8,h9⟩:=List.any_eq_true.1 h5;simp only [Bool.and_eq_true] at h9;obtain rfl:i=id:=by simpa using h9.1
     cases o with
     | box an t cs=>exact⟨an,t,cs,h8⟩
     | row _ _ _=>exact absurd h9.2 (by simp [isBx])
     | opq _ _=>exact absurd h9.2 (by simp [isBx])
     | rowA _ _ _ _=>exact absurd h9.2 (by simp [isBx])
    obtain⟨an,t,cs,h8⟩:=hid;obtain⟨b1,lv,q1,q0,_⟩:=h.ob id _ (x5j nd h8);rw [q1] at h6;cases h6;have e1:A id=b:=q0 _ rfl;have hmem':(id,true)∈l'.map kyB:=by rw [hk];exact List.mem_map.2 ⟨_,h8,rfl⟩
    obtain⟨⟨i,o'⟩,h9,h10⟩:=List.mem_map.1 hmem'
    cases o' with
    | box an' t' cs' =>
     obtain rfl:i=id:=congrArg Prod.fst h10;obtain⟨b2,lv2,r1,r0,_⟩:=h3.ob i _ (x5j nd' h9);have e2:A i=b2:=r0 _ rfl;rw [r1,← e2,e1]
    | row _ _ _=>exact absurd (congrArg Prod.snd h10) (by simp [kyB,isBx])
    | opq _ _=>exact absurd (congrArg Prod.snd h10) (by simp [kyB,isBx])
    | rowA _ _ _ _=>exact absurd (congrArg Prod.snd h10) (by simp [kyB,isBx])
   | any=>trivial
   | row _ _=>rw [hq] at h5;cases h5
   | rptr _ _ _ _ _=>rw [hq] at h5;cases h5
   | mp _=>rw [hq] at h5;cases h5
   | rsub _ _ _ _=>rw [hq] at h5;cases h5
   | nptr _=>rw [hq] at h5;cases h5
   | dr _ _=>rw [hq] at h5;cases h5
   | comp _ _=>rw [hq] at h5;cases h5
 ·rcases hmine id o b h1 h2 with h4|h4
  ·obtain⟨i',o',h5,h6⟩:=hbk b h4;exact h.mine i' o' b h5 h6
  ·exact .inr (Nat.le_trans h.kp.size h4)
theorem Rel.anchor {X:Ctx} {f:Nat->Slot} {own:Own} {g:Gh} {a:Act} {w:World} (h:Rel X f own g a w) (lf:List (Nat×Slot)) (b0:Bx) (l:Bx) (hl:∀ A,mkB A l=mkB A b0)
  (hf:subF f lf) (ho:subO own b0) (hok:okL lf b0=true) (nd:ndB (b0.map (·.1))=true) :
  ∃ A g',Rel X (frs lf) (ows (mkB A l)) g' a w:=by
 obtain⟨g',h1⟩:=h.less lf b0 hf ho hok
 let A:Nat->Nat:=λi=>(g'.bl i).getD 0
 rw [show (∃ A g',Rel X (frs lf) (ows (mkB A l)) g' a w)↔∃ A g',Rel X (frs lf) (ows (mkB A b0)) g' a w from by simp only [hl]]
 have key:∀ id o,ows (mkB A b0) id=some (some o)->∃ o0,o=anB (A id) o0/\ows b0 id=some (some o0):=by
  intro id o h2;obtain⟨o0,rfl,h3⟩:=w29 nd h2;exact⟨o0,rfl,(uq nd).2 h3⟩
 have hM:∀ b,Mof X g' (ows (mkB A b0)) b->Mof X g' (ows b0) b:=λb hb=>by
  rcases hb with hb|⟨id,o,h2,h3⟩
  ·exact .inl hb
  ·obtain⟨o0,rfl,h4⟩:=key id o h2;rw [y8o] at h3;exact .inr ⟨id,_,h4,h3⟩
 have he:Ext (Mof X g' (ows b0)) (Mof X g' (ows (mkB A b0))) w w:=⟨Nat.le_refl _,λ_ _ _ _=>rfl,λb _ hb=>hM b hb⟩
 refine⟨A,g',h1.kp,h1.m0,h1.n,h1.df,λt=>(h1.fr t).keep he (Gh.le_refl g'),λid o h2=>?_,λid id' o o' b h2 h3 h4 h5=>?_,λid o b h2 h3=>?_,λid h2=>h1.fresh id ?_,λid e size es h2=>?_⟩
 ·obtain⟨o0,rfl,h4⟩:=key id o h2;have h5:=(h1.ob id _ h4).keep he (Gh.le_refl g') (λ_ _=>rfl)
  cases o0 with
  | box an t cs =>
   obtain⟨b,lv,q1,q0,q2,q3,q4⟩:=h5;exact⟨b,lv,q1,λq hq=>by cases hq;show (g'.bl id).getD 0=b;rw [q1];rfl,q2,q3,q4⟩
  | row _ _ _=>exact h5
  | opq _ _=>exact h5
  | rowA _ _ _ _=>exact h5
 ·obtain⟨o0,rfl,h6⟩:=key id o h2;obtain⟨o1,rfl,h7⟩:=key id' o' h3;rw [y8o] at h4 h5;exact h1.sep id id' _ _ b h6 h7 h4 h5
 ·obtain⟨o0,rfl,h6⟩:=key id o h2;rw [y8o] at h3;exact h1.mine id _ b h6 h3
 ·rw [y3j] at h2 ⊢;rw [Wl] at h2;exact h2
 ·obtain⟨o0,h6,h7⟩:=key id _ h2
  cases o0 with
  | row e' size' es'=>cases h6;exact h1.top id _ _ _ h7
  | box _ _ _=>cases h6
  | opq _ _=>cases h6
  | rowA _ _ _ _=>cases h6

def oneV:Bool->List Value->Value
 | true,[x]=>x
 | _,c=>.agg c.toArray
def oneU:Bool->List V->V
 | true,[u]=>u
 | _,us=>vagg us
theorem w2w (o:Bool) {us:List V} {w:World} {M:Blks} {c:List Value} (h:(vagg us).p w M (.agg c.toArray)):(oneU o us).p w M (oneV o c):=by
 cases o with
 | false=>exact h
 | true =>
  obtain⟨l,h1,h2,h3⟩:=h
  obtain rfl:c=l:=by
   injection h1 with h1
   exact congrArg Array.toList h1
  match us,c,h2,h3 with
  | [],[],_,_=>exact⟨[],rfl,rfl,λj u hj=>by simp at hj⟩
  | [u],[x],_,h3 =>
   obtain⟨y,p1,p2,_⟩:=h3 0 u rfl;have:x=y:=by simpa using p1
   subst this;exact p2
  | u::u2::us,x::x2::c,h2,h3=>exact⟨_,rfl,h2,h3⟩
def x1y (P:Program) (gf n:Nat) (o:Bool):Prop:=∀ (vals:List (List Value)) (M:Blks) (l:Nat) (cap:Value) (J:Nat->World->Prop) (Jx:World->Prop) (W:World),vals.length<=1000000000->(∀ c,c∈vals->c.length=n) ->
 (∀ m W W',J m W->Kp [] W W'->J m W')->(∀ m W,J m W->Mlt W M/\(qn [[vlst (vals.map λc=>c.map vval)]] 0 0).p W M cap) ->
 (∀ m W,m < vals.length->J (m+1) W->YieldAt Fence.wide 0 P l #[.int .i64 (m:Int),oneV o (vals.getD m [])] W λe W'=>(e = .returned (.bool true)/\J m W')∨(e = .returned (.bool false)/\Jx W')) ->
 J vals.length W->CallsIn Fence.wide 0 P gf #[.func (.yield l) #[] #[],cap] W λe W'=>(∃ v,e = .returned v)/\(J 0 W'∨Jx W')

theorem w77 {w:World} {M:Blks} {b off size:Nat} {es:List (List V)} (h:xt w M b off size es):∃ vals:List (List Value),vals.length=es.length/\xt w M b off size (vals.map λc=>c.map vval) /\
  ∀ (k:Nat) (el:List V),es[k]?=some el->∀ w',(∀ arr e fz,w.heap[b]?=some (.cells arr e fz)->w'.heap[b]?=some (.cells arr e fz))->∀ M',(xt w' M' b off size es)->(vagg el).p w' M' (.agg (vals.getD k []).toArray):=by
 obtain⟨hM,arr,e,fz,h1,h2,h3⟩:=h
 let vals:List (List Value):=(List.range es.length).map λk=>(List.range size).map λc=>arr.getD (off+k*size+c) undef
 have hv:∀ k,k < es.length->vals[k]?=some ((List.range size).map λc=>arr.getD (off+k*size+c) undef):=λk hk=>by simp [vals,hk]
 have hat:∀ k c el,es[k]?=some el->c < size->∃ x u,el[c]?=some u/\arr[off+k*size+c]?=some x/\arr.getD (off+k*size+c) undef=x/\x.oneCell'=true:=λk c el hk hc=>by
  have hl:=h2 el (List.mem_of_getElem? hk);have hu:el[c]?=some el[c]:=List.getElem?_eq_getElem (by omega);obtain⟨x,r1,r2,r3⟩:=h3 k c el _ hk hu;exact⟨x,_,hu,r1,by rw [Array.getD_eq_getD_getElem?,r1];rfl,r3⟩
 refine⟨vals,by simp [vals],⟨hM,arr,e,fz,h1,λel hel=>?_,λk c el u hk hc=>?_⟩,λk el hk w' hw M' hr=>?_⟩
 ·obtain⟨c,hc,rfl⟩:=List.mem_map.1 hel;simp only [vals,List.mem_map] at hc;obtain⟨k,_,rfl⟩:=hc;simp
 ·rw [List.getElem?_map] at hk;rcases Nat.lt_or_ge k es.length with hkl|hkl
  ·rw [hv k hkl] at hk;cases hk;obtain⟨el,hel⟩:∃ el,es[k]?=some el:=⟨_,List.getElem?_eq_getElem hkl⟩
   have hcs:c < size:=by
    have:=(List.getElem?_eq_some_iff.1 hc).1;simpa using this
   obtain⟨x,u',r0,r1,r2,r3⟩:=hat k c el hel hcs;refine⟨x,r1,?_,r3⟩
   have:u=vval x:=by
    rw [List.getElem?_map,List.getElem?_map,List.getElem?_range hcs] at hc;have:=Option.some.inj hc;rw [← this];exact congrArg vval r2
   rw [this];rfl
  ·have:vals[k]?=none:=List.getElem?_eq_none (by simp [vals];omega);rw [this] at hk;cases hk
 ·have hkl:=(List.getElem?_eq_some_iff.1 hk).1;have hl:=h2 el (List.mem_of_getElem? hk);have e1:vals.getD k []=(List.range size).map λc=>arr.getD (off+k*size+c) undef:=by rw [List.getD_eq_getElem?_getD,hv k hkl];rfl
  rw [e1];refine⟨_,rfl,by simp [hl],λj u hj=>?_⟩;have hj':=(List.getElem?_eq_some_iff.1 hj).1;obtain⟨x,u',r0,r1,r2,r3⟩:=hat k j el hk (by omega);obtain⟨_,arr',e',fz',q1,_,q3⟩:=hr;have q2:=hw arr e fz h1;rw [q2] at q1;injection q1 with q1;injection q1 with q1 _ _
  subst q1;obtain⟨y,p1,p2,p3⟩:=q3 k j el u hk hj;refine⟨x,?_,?_,r3⟩
  ·rw [List.getElem?_map,List.getElem?_range (by omega)];simp [r1]
  ·rw [r1] at p1;cases p1;exact p2
def RetL (P:Program) (rs:List ResultVar) (us:List V) (f:Nat->Slot) (own:Own):Prop:=∃ lf lo,subF f lf/\subO own lo/\okL lf lo=true/\lo.all (λp=>boxB p.2)=true/\Yl P (frs lf) (ows lo) rs us
def Yt (D:Nat):Deferred:={ target:=.collected D,args:=#[] }
def FinP (P:Program) (X:Ctx) (rs:List ResultVar) (us:List V) (e:Exit) (a':Act) (w':World):Prop:=(e = .normal∨e = .ret)/\∃ lf lo g',lo.all (λp=>boxB p.2)=true/\Yl P (frs lf) (ows lo) rs us /\
 (Rel X (frs lf) (ows lo) g' a' w'∨∃ D,a'.defers=Yt D::X.D/\X.w0.heap.size<=D/\w'.heap[D]?=some (.deferred (some []))/\Rel X (frs lf) (ows lo) g' { a' with defers:=X.D } w')
def AWPF (P:Program) (X:Ctx) (rs:List ResultVar) (us:List V) (c:Code) (f:Nat->Slot) (own:Own):Prop:=∀ (g:Gh) (a:Act) (w:World),Rel X f own g a w->c.wpIn (FR none) 0 P (FinP P X rs us) a w
section
variable {P:Program} {X:Ctx} {f:Nat->Slot} {own:Own} {rs:List ResultVar} {us:List V}
theorem z1q {x y:Code} (hR:X.R=none) (h:AWP P X x (λe f own=>match e with|.normal=>AWPF P X rs us y f own|.ret=>RetL P rs us f own|_=>False) f own):AWPF P X rs us (.seq x y) f own:=by
 intro g a w hr;have h0:=h g a w hr;rw [hR] at h0;refine wpIn_seq (wpIn_mono h0 ?_);rintro e a' w' ⟨f',own',g',h1,h2⟩
 cases e with
 | normal=>exact h2 g' a' w' h1
 | ret =>
  obtain⟨lf,lo,q1,q2,q3,q4,q5⟩:=h2;obtain⟨g'',h3⟩:=h1.less lf lo q1 q2 q3;exact⟨.inr rfl,lf,lo,g'',q4,q5,.inl h3⟩
 | exit id=>exact h2.elim
 | goto l=>exact h2.elim
 | panic ch=>exact h2.elim
 | outgrown=>exact h2.elim
def x8e (P:Program) (X:Ctx) (rs:List ResultVar) (us:List V) (b:Nat) (gop:Operand) (ps:Array Tmp) (asg bdy y:Code) (f:Nat->Slot) (own:Own):Prop:=∀ (g:Gh) (a:Act) (w:World),Rel X f own g a w ->
 (Code.block b (.rangeFunc gop ps asg bdy)).wpIn (FR none) 0 P (Exit.then (y.wpIn (FR none) 0 P (FinP P X rs us)) (FinP P X rs us)) a w
theorem x1d {x y asg bdy:Code} {b:Nat} {gop:Operand} {ps:Array Tmp} (hR:X.R=none) (h:AWP P X x (λe f own=>e = .normal/\x8e P X rs us b gop ps asg bdy y f own) f own):AWPF P X rs us (.seq (.seq x (.block b (.rangeFunc gop ps asg bdy))) y) f own:=by
 intro g a w hr;have h0:=h g a w hr;rw [hR] at h0;refine wpIn_seq (wpIn_seq (wpIn_mono h0 ?_));rintro e a' w' ⟨f',own',g',h1,rfl,h2⟩;exact h2 g' a' w' h1

theorem y73 {fn:Nat} {fc:Func} {c:Code} {args:List V} {N:Nat} (hf:P.funcs[fn]?=some fc) (hb:fc.body=some c) (hnt:fc.ntmps=N) (hrs:fc.results.toList=rs) (hn:Nat.ble args.length N=true)
  (h:∀ X:Ctx,X.N=N->X.R=none->AWPF P X rs us c (λt=>(args.map Slot.dat).getD t .any) (λ_=>none)):Pure P fn args (yb us):=by
 subst hnt hrs;have hn:=Nat.le_of_ble_eq_true hn;intro M w vs hM hvs;have hvl:vs.size=args.length:=by simpa using hvs.1
 refine (callsIn_wide (n:=0)).1 (callsIn_of_wp_marks hf hb trivial (wpIn_mono (h ⟨M,w,[],fc.ntmps,none,[]⟩ rfl rfl ⟨λ_=>none,λ_ _=>none⟩ _ w ?_) ?_) rfl)
 ·refine⟨Kp.refl _ _,⟨λb hb=>⟨hM.1 b hb,by simp⟩,hM.2.1,λb hb=>⟨hM.2.2 b hb,by simp⟩⟩,by simp;omega,rfl,λt=>?_,λid o ho=>(by cases ho),λid _ o _ b ho=>(by cases ho),λid o b ho=>(by cases ho),λid _=>⟨rfl,λ_=>rfl⟩,λid e size es h=>(by cases h)⟩
  cases hs:args[t]? with
  | none =>
   have:(args.map Slot.dat).getD t .any = .any:=by rw [List.getD_eq_getElem?_getD,List.getElem?_map,hs];rfl
   rw [this];trivial
  | some u =>
   have e1:(args.map Slot.dat).getD t .any = .dat u:=by rw [List.getD_eq_getElem?_getD,List.getElem?_map,hs];rfl
   rw [e1];obtain⟨x,hx,hp⟩:=hvs.2 t u hs;have hx':vs[t]?=some x:=by simpa using hx
   have hlt:t < vs.size:=(Array.getElem?_eq_some_iff.1 hx').1;show u.p w _ _;rw [Array.getD_eq_getD_getElem?,Array.getElem?_append_left hlt,hx']
   exact u.keep (M:=M) ⟨Nat.le_refl _,λ_ _ _ _=>rfl,λb _ hb=>by
    rcases hb with hb|⟨id,o,ho,_⟩
    ·exact hb
    ·cases ho⟩ hp
 ·have done:∀ {lf lo g' a' w'},Yl P (frs lf) (ows lo) fc.results.toList us->Rel ⟨M,w,[],fc.ntmps,none,[]⟩ (frs lf) (ows lo) g' a' w'->∃ v,(results fc a'.tmps).run P w' = .ok v w'/\∃ v_1,Ending.returned v = .returned v_1/\(yb us).p w' M v_1/\Kp [] w w':=by
   intro lf lo g' a' w' hres hr
   obtain⟨v,hv1,hv2⟩:=y7w (P:=P) hr M ⟨Nat.le_refl _,λ_ _ _ _=>rfl,λb _ hb=>.inl hb⟩ (λid e size es b h1 h2 hM'=>by
    have h5:=hr.m0.1 b hM';rcases hr.mine id _ b h1 h2 with h6|h6
    ·exact h5.2 h6
    ·have:=h5.1
     omega) fc us hres
   exact⟨v,hv1,v,rfl,hv2,hr.kp⟩
  rintro e a' w' ⟨he,lf,lo,g',hbx,hres,hcase⟩
  have hL:LeavesInM Fence.wide 0 P fc a'.tmps (λe w'=>∃ v,e = .returned v/\(yb us).p w' M v/\Kp [] w w') a'.defers .returning w':=by
   rcases hcase with hr|⟨D,hD,hD1,hD2,hr⟩
   ·have:a'.defers=[]:=hr.df;rw [this];exact done hres hr
   ·rw [hD];refine⟨by simp,.inl ⟨D,_,rfl,run_takeDeferred hD2,?_⟩⟩;have hr2:=hr.putCtl hbx (.deferred none) hD2 rfl hD1;exact done (a':={ a' with defers:=[] }) hres hr2
  rcases he with rfl|rfl
  ·exact hL
  ·exact hL

theorem xj {tmps:Array Value} {N p:Nat} {v:Value} (h:tmps.size=N) (hp:p < N) (t:Nat):(tmps.setIfInBounds p v).getD t undef=if t=p then v else tmps.getD t undef:=by
 by_cases ht:t=p
 ·subst ht;rw [if_pos rfl,Array.getD_eq_getD_getElem?,Array.getElem?_setIfInBounds_self_of_lt (by omega)];rfl
 ·rw [if_neg ht,Array.getD_eq_getD_getElem?,Array.getElem?_setIfInBounds_ne (Ne.symm ht),← Array.getD_eq_getD_getElem?]

structure RB (X:Ctx) (lf:List (Nat×Slot)) (A:Nat->Nat) (g:Gh) (l0:Bx) (a:Act) (w:World) (lB:Bx) (g':Gh) (W:World):Prop where
 rel:Rel X (frs lf) (ows (mkB A lB)) g' a W
 sz:w.heap.size<=W.heap.size
 st:∀ b,b < w.heap.size->b ∉ blks g (mkB A l0)->(∃ o,w.heap[b]?=some o/\Zz o=true)->W.heap[b]?=w.heap[b]?
 mn:∀ id o b,ows (mkB A lB) id=some (some o)->obk g' id o=some b->b∈blks g (mkB A l0)∨w.heap.size<=b
 bx:lB.all (λp=>boxB p.2)=true
section
variable {lf:List (Nat×Slot)} {A:Nat->Nat} {g g':Gh} {l0 lB lB':Bx} {a:Act} {w W:World}
theorem RB.grow (h:RB X lf A g l0 a w lB g' W) {W':World} (hk:Kp [] W W'):RB X lf A g l0 a w lB g' W':=
 ⟨h.rel.grow hk,Nat.le_trans h.sz hk.size,λb hb hn hc=>(hk.block b (Nat.lt_of_lt_of_le hb h.sz) (by simp)).trans (h.st b hb hn hc),h.mn,h.bx⟩
theorem RB.put (h:RB X lf A g l0 a w lB g' W) {lr:Nat} {o:Obj} (o':Obj) (hl:W.heap[lr]?=some o) (ho:Zz o=false) (hw:w.heap.size<=lr) (hX:X.w0.heap.size<=w.heap.size):RB X lf A g l0 a w lB g' (W.putObj lr o'):=
 ⟨h.rel.putCtl (z2p A h.bx) o' hl ho (Nat.le_trans hX hw),by simpa using h.sz,λb hb hn hc=>(World.putObj_heap_other (by omega)).trans (h.st b hb hn hc),h.mn,h.bx⟩
theorem w85 {X:Ctx} {f:Nat->Slot} {lo:List (Nat×AObj)} {g:Gh} {a:Act} {w:World} (h:Rel X f (ows lo) g a w) (nd:ndB (lo.map (·.1))=true) (hb:lo.all (λp=>boxB p.2)=true) {b:Nat} (hm:b∈blks g lo):∃ cs t fz,w.heap[b]?=some (.cells cs t fz):=by
 obtain⟨i,o,h1,h2⟩:=Zm.1 hm;exact x7m (h.ob i o ((uq nd).2 h1)) (List.all_eq_true.1 hb (i,o) h1) h2
theorem Qp {X:Ctx} {f:Nat->Slot} {lo:List (Nat×AObj)} {g:Gh} {a:Act} {w:World} (h:Rel X f (ows lo) g a w) (nd:ndB (lo.map (·.1))=true) (hb:lo.all (λp=>boxB p.2)=true) {b:Nat} {o:Obj} (hl:w.heap[b]?=some o) (ho:Zz o=false):b ∉ blks g lo:=λhm=>by
 obtain⟨cs,t,fz,h1⟩:=w85 h nd hb hm;rw [hl] at h1;cases h1;cases ho
theorem RB.round (h:RB X lf A g l0 a w lB g' W) {R1 R2:Option Nat} {D1 D2:List Deferred} {lf1:List (Nat×Slot)} {lo1:List (Nat×AObj)} {g1 g2:Gh} {a1 a3:Act} {Wa W3:World} {f2:Nat->Slot} {own2:Own} {lr:Nat} {o o':Obj}
  (k1:Rel (Yj X g' (mkB A lB) W R1 D1) (frs lf1) (ows lo1) g1 a1 Wa) (q4:lo1.all (λp=>boxB p.2)=true) (q5:ndB (lo1.map (·.1))=true) (hl:Wa.heap[lr]?=some o) (ho:Zz o=false) (hw:w.heap.size<=lr) (hX:X.w0.heap.size<=w.heap.size)
  (k5:Rel (Yj { X with R:=R1,D:=D1 } g1 lo1 (Wa.putObj lr o') R2 D2) f2 own2 g2 a3 W3) (hs:subO own2 (mkB A lB')) (hok':okL [] (mkB A lB')=true) (hbx':lB'.all (λp=>boxB p.2)=true) (nd:ndB (lB.map (·.1))=true) (nd':ndB (lB'.map (·.1))=true) (hk:lB'.map kyB=lB.map kyB) (hsim:lf.all (λp=>simS lB p.2)=true) :
  ∃ g3,RB X lf A g l0 a w lB' g3 W3:=by
 have ndk:∀ l:Bx,ndB (l.map (·.1))=true->ndB ((mkB A l).map (·.1))=true:=λl h=>by rw [Wl];exact h
 have k2:=Rel.rebase h.rel (ndk _ nd) k1;have k3:=k2.putCtl q4 o' hl ho (Nat.le_trans hX hw);obtain⟨g3,k6⟩:=k5.less [] (mkB A lB') trivial hs hok';have k7:=Rel.rebase k3 q5 k6;have kpa:Kp (blks g' (mkB A lB)) W Wa:=k1.kp;have kpb:Kp (blks g1 lo1) (Wa.putObj lr o') W3:=k6.kp
 have hm1:∀ b,b∈blks g1 lo1->b∈blks g' (mkB A lB)∨W.heap.size<=b:=λb hb=>by
  obtain⟨i,p,h1,h2⟩:=Zm.1 hb;exact k1.mine i p b ((uq q5).2 h1) h2
 have hsz:W.heap.size<=W3.heap.size:=Nat.le_trans kpa.size (by have:=kpb.size;simpa using this)
 have hst:∀ b,b < W.heap.size->b ∉ blks g' (mkB A lB)->(∃ o,W.heap[b]?=some o/\Zz o=true)->W3.heap[b]?=W.heap[b]?:=λb hb hn ⟨o1,hc,hc2⟩=>by
  have e1:=kpa.block b hb hn
  have hne:b≠lr:=λe=>by
   subst e;rw [e1,hc] at hl;cases hl;rw [ho] at hc2;cases hc2
  have e2:(Wa.putObj lr o').heap[b]?=Wa.heap[b]?:=World.putObj_heap_other hne
  have e3:=kpb.block b (by have:=kpa.size;simp;omega) (λhm=>by
   rcases hm1 b hm with h1|h1
   ·exact hn h1
   ·omega)
  rw [e3,e2,e1]
 have hmn:∀ id p b,ows (mkB A lB') id=some (some p)->obk g3 id p=some b->b∈blks g' (mkB A lB)∨W.heap.size<=b:=λid p b h1 h2=>by
  rcases k6.mine id p b h1 h2 with h3|h3
  ·exact hm1 b h3
  ·have h3:(Wa.putObj lr o').heap.size<=b:=h3;have:=kpa.size;simp at h3;exact .inr (by omega)
 have hnew:∀ b,b∈blks g' (mkB A lB)->b∈blks g (mkB A l0)∨w.heap.size<=b:=λb hb=>by
  obtain⟨i,p,h1,h2⟩:=Zm.1 hb;exact h.mn i p b ((uq (ndk _ nd)).2 h1) h2
 refine⟨g3,Rel.out h.rel k7 rfl hsz k7.kp hst hmn nd nd' hk hsim,Nat.le_trans h.sz hsz,λb hb hn hc=>?_,λid p b h1 h2=>?_,hbx'⟩
 ·have e1:=h.st b hb hn hc;refine (hst b (Nat.lt_of_lt_of_le hb h.sz) (λhm=>?_) (by rw [e1];exact hc)).trans e1;rcases hnew b hm with h1|h1
  ·exact hn h1
  ·omega
 ·rcases hmn id p b h1 h2 with h3|h3
  ·exact hnew b h3
  ·exact .inr (Nat.le_trans h.sz h3)
end

def recL (fn:FuncId) (tmps:Array Value) (p0 p1:Tmp) (asg bdy:Code) (D:Nat) (st:LoopState) (pe:Option Code):Loop:={ state:=st,pending:=pe,fn,tmps,params:=#[p0,p1],assign:=asg,body:=bdy,defers:=D }
def JR {α σ ρ:Type} (X:Ctx) (lf:List (Nat×Slot)) (A:Nat->Nat) (g:Gh) (bx:σ->Bx) (s0:σ) (a:Act) (w:World) (body:Nat->α->σ->Option (σ ⊕ ρ)) (fin:σ->Option ρ) (l:List α) (r:ρ) (rec:LoopState->Option Code->Loop) (m:Nat) (W:World):Prop:=
 ∃ s g',back body fin l m s=some r/\RB X lf A g (bx s0) a w (bx s) g' W/\W.heap[w.heap.size+1]?=some (.loop (rec .ready none))/\W.heap[w.heap.size]?=some (.deferred (some []))
def JxR (P:Program) (X:Ctx) (rs:List ResultVar) (us:List V) (lf:List (Nat×Slot)) (A:Nat->Nat) (g:Gh) (l0:Bx) (a:Act) (w:World) (rec:LoopState->Option Code->Loop) (W:World):Prop:=
 ∃ lR g',Yl P (frs lf) (ows (mkB A lR)) rs us/\ndB (lR.map (·.1))=true/\RB X lf A g l0 a w lR g' W/\W.heap[w.heap.size+1]?=some (.loop (rec .done (some .ret)))/\W.heap[w.heap.size]?=some (.deferred (some []))
section
variable {α σ ρ:Type} {b:Nat} {gop:Operand} {p0 p1:Tmp} {asg bdy y:Code} {C:α->List V} {l:List α} {gf:Nat} {body:Nat->α->σ->Option (σ ⊕ ρ)} {fin:σ->Option ρ} {s0:σ} {r:ρ} {o:Bool}
theorem w14 {lf:List (Nat×Slot)} {bx:σ->Bx} (nd:∀ s,ndB ((bx s).map (·.1))=true) (hk:∀ s s',(bx s).map kyB=(bx s').map kyB) (hok:∀ A s,okL [] (mkB A (bx s))=true) (hcl:∀ s,(bx s).all (λp=>boxB p.2)=true) (hsim:∀ s,lf.all (λp=>simS (bx s) p.2)=true) (hp0:p0 < X.N) (hp1:p1 < X.N)
  (hround:∀ (A:Nat->Nat) (X':Ctx) (k:Nat) (x:α) (s:σ) (q:σ ⊕ ρ),X'.N=X.N->k < l.length->l[k]?=some x->body k x s=some q->(∀ r',q = .inr r'->r'=r) ->
   AWP P X' asg (λe f1 own1=>e = .normal/\∃ lf1 lo1,subF f1 lf1/\subO own1 lo1/\okL lf1 lo1=true/\lo1.all (λp=>boxB p.2)=true/\ndB (lo1.map (·.1))=true /\
    ∀ X2:Ctx,X2.N=X.N->AWP P X2 bdy (λe f2 own2=>match e with
     | .normal=>∃ s',q = .inl s'/\subO own2 (mkB A (bx s'))
     | .ret=>∃ lR:Bx,ndB (lR.map (·.1))=true/\lR.map kyB=(bx s).map kyB/\okL [] (mkB A lR)=true/\lR.all (λp=>boxB p.2)=true/\subO own2 (mkB A lR)/\Yl P (frs lf) (ows (mkB A lR)) rs us
     | _=>False) (frs lf1) (ows lo1))
    (updS (updS (frs lf) (some p0) (.dat (vint (k:Int)))) (some p1) (.dat (oneU o (C x)))) (ows (mkB A (bx s))))
  {A:Nat->Nat} {g:Gh} {a:Act} {w:World} {fn:FuncId} {vals:List (List Value)} (hXw:X.w0.heap.size<=w.heap.size) {m:Nat} {W:World} (hml:m < l.length)
  (hread:∀ (x:α),l[m]?=some x->∀ lB g',RB X lf A g (bx s0) a w lB g' W->(oneU o (C x)).p W (Mof X g' (ows (mkB A lB))) (oneV o (vals.getD m [])))
  (hJ:JR X lf A g bx s0 a w body fin l r (recL fn a.tmps p0 p1 asg bdy w.heap.size) (m+1) W) :
  YieldAt Fence.wide 0 P (w.heap.size+1) #[.int .i64 (m:Int),oneV o (vals.getD m [])] W λe W'=>(e = .returned (.bool true)/\JR X lf A g bx s0 a w body fin l r (recL fn a.tmps p0 p1 asg bdy w.heap.size) m W')∨(e = .returned (.bool false)/\JxR P X rs us lf A g (bx s0) a w (recL fn a.tmps p0 p1 asg bdy w.heap.size) W'):=by
 have ndk:∀ s,ndB ((mkB A (bx s)).map (·.1))=true:=λs=>by rw [Wl];exact nd s
 obtain⟨s,g',h1,h2,h3,h4⟩:=hJ;obtain⟨lr,hlr⟩:∃ lr,lr=w.heap.size+1:=⟨_,rfl⟩
 rw [← hlr] at h3 ⊢;obtain⟨x,hx⟩:∃ x,l[m]?=some x:=⟨_,List.getElem?_eq_getElem hml⟩
 have h1':(l[m]?).bind (λx=>(body m x s).bind (after (back body fin l m)))=some r:=h1;rw [hx] at h1';obtain⟨q,hq,hqa⟩:=bnd (show (body m x s).bind (after (back body fin l m))=some r from h1');have hqr:∀ r',q = .inr r'->r'=r:=λr' e=>by subst e;injection hqa
 have hy:(Instr.yield lr #[.int .i64 (m:Int),oneV o (vals.getD m [])]).run P W = .ok (.round lr fn ((a.tmps.setIfInBounds p0 (.int .i64 (m:Int))).setIfInBounds p1 (oneV o (vals.getD m []))) asg bdy) W:=by
  have:=run_yield (P:=P) (args:=#[.int .i64 (m:Int),oneV o (vals.getD m [])]) h3 (by rfl);simpa [recL] using this
 refine⟨_,_,_,_,hy,roundIn_of_wpIn trivial ?_⟩;have hN:a.tmps.size=X.N:=h2.rel.n
 have e0:(Rel (Yj X g' (mkB A (bx s)) W (some lr) []) (updS (updS (frs lf) (some p0) (.dat (vint (m:Int)))) (some p1) (.dat (oneU o (C x)))) (ows (mkB A (bx s))) g' { tmps:=(a.tmps.setIfInBounds p0 (.int .i64 (m:Int))).setIfInBounds p1 (oneV o (vals.getD m [])),defers:=[] } W):=by
  refine h2.rel.here (ndk s) (some lr) [] (by simpa using hN) rfl λt=>?_;show RepS g' W _ _ (((a.tmps.setIfInBounds p0 (.int .i64 (m:Int))).setIfInBounds p1 (oneV o (vals.getD m []))).getD t undef);rw [xj (N:=X.N) (by simpa using hN) hp1,xj (N:=X.N) hN hp0]
  by_cases ht1:t=p1
  ·subst ht1;rw [if_pos rfl];have:updS (updS (frs lf) (some p0) (.dat (vint (m:Int)))) (some t) (.dat (oneU o (C x))) t = .dat (oneU o (C x)):=by simp [updS]
   rw [this];exact hread x hx _ _ h2
  ·rw [if_neg ht1]
   by_cases ht0:t=p0
   ·subst ht0;rw [if_pos rfl];have:updS (updS (frs lf) (some t) (.dat (vint (m:Int)))) (some p1) (.dat (oneU o (C x))) t = .dat (vint (m:Int)):=by simp [updS,qz ht1]
    rw [this];rfl
   ·rw [if_neg ht0];have:updS (updS (frs lf) (some p0) (.dat (vint (m:Int)))) (some p1) (.dat (oneU o (C x))) t=frs lf t:=by simp [updS,qz ht1,qz ht0]
    rw [this];exact h2.rel.fr t
 refine wpIn_mono (hround A (Yj X g' (mkB A (bx s)) W (some lr) []) m x s q rfl hml hx hq hqr g' _ W e0) ?_;rintro e a1 Wa ⟨f1,own1,g1,k1,rfl,lf1,lo1,q1,q2,q3,q4,q5,hbody⟩;obtain⟨g1',k1'⟩:=k1.less lf1 lo1 q1 q2 q3;have kpa:Kp (blks g' (mkB A (bx s))) W Wa:=k1'.kp;have hla:Wa.heap[lr]?=some (.loop (recL fn a.tmps p0 p1 asg bdy w.heap.size .ready none)):=(kpa.block lr (vh h3) (Qp h2.rel (ndk s) (z2p A h2.bx) h3 rfl)).trans h3;have hda:Wa.heap[w.heap.size]?=some (.deferred (some [])):=(kpa.block _ (vh h4) (Qp h2.rel (ndk s) (z2p A h2.bx) h4 rfl)).trans h4;obtain⟨bs,hbs⟩:∃ bs,bs=Obj.loop { recL fn a.tmps p0 p1 asg bdy w.heap.size .ready none with state:=.busy }:=⟨_,rfl⟩
 refine⟨Wa.putObj lr bs,by rw [hbs];exact run_beginRound hla rfl,?_⟩;have k2:=Rel.rebase h2.rel (ndk s) k1';have k3:=k2.putCtl q4 bs hla rfl (by show X.w0.heap.size<=lr;omega);have k4:=k3.here q5 (some lr) [] k3.n k3.df k3.fr;have hlb:(Wa.putObj lr bs).heap[lr]?=some bs:=World.putObj_heap_same (vh hla);have hdb:(Wa.putObj lr bs).heap[w.heap.size]?=some (.deferred (some [])):=(World.putObj_heap_other (by omega)).trans hda;have hbc:Zz bs=false:=by rw [hbs];rfl
 obtain⟨X2,hX2⟩:∃ X2,X2=Yj { X with R:=some lr,D:=[] } g1' lo1 (Wa.putObj lr bs) (some lr) []:=⟨_,rfl⟩
 have hX2R:X2.R=some lr:=by rw [hX2];rfl
 have hb:=hbody X2 (by rw [hX2];rfl) g1' a1 _ (by rw [hX2];exact k4);rw [hX2R] at hb;refine wpIn_mono hb ?_;rintro e a3 W3 ⟨f2,own2,g2,k5,hcase⟩;rw [hX2] at k5;have kpb:Kp (blks g1' lo1) (Wa.putObj lr bs) W3:=k5.kp;have hl3:W3.heap[lr]?=some (.loop { recL fn a.tmps p0 p1 asg bdy w.heap.size .ready none with state:=.busy }):=((kpb.block lr (vh hlb) (Qp k3 q5 q4 hlb hbc)).trans hlb).trans (by rw [hbs]);have hd3:W3.heap[w.heap.size]?=some (.deferred (some [])):=(kpb.block _ (vh hdb) (Qp k3 q5 q4 hdb rfl)).trans hdb
 have hend:∀ jump:Option Code,(Instr.endRound lr jump).run P W3 = .ok (.bool jump.isNone) (W3.putObj lr (.loop (recL fn a.tmps p0 p1 asg bdy w.heap.size (if jump.isNone then .ready else .done) jump))):=λjump=>by
  have:=run_endRound (P:=P) jump hl3;exact this
 cases e with
 | normal =>
  obtain⟨s',rfl,hs'⟩:=hcase;obtain⟨g3,k6⟩:=h2.round k1' q4 q5 hla rfl (by omega) hXw k5 hs' (hok A s') (hcl s') (nd s) (nd s') (hk s' s) (hsim s);refine⟨_,_,hend none,.inl ⟨rfl,s',g3,hqa,k6.put _ hl3 rfl (by omega) hXw,by rw [← hlr];exact World.putObj_heap_same (vh hl3),(World.putObj_heap_other (by omega)).trans hd3⟩⟩
 | ret =>
  obtain⟨lR,ndR,hkR,hoR,hbR,hsR,hres⟩:=hcase;obtain⟨g3,k6⟩:=h2.round k1' q4 q5 hla rfl (by omega) hXw k5 hsR hoR hbR (nd s) ndR hkR (hsim s);refine⟨_,_,hend (some .ret),.inr ⟨rfl,lR,g3,hres,ndR,k6.put _ hl3 rfl (by omega) hXw,by rw [← hlr];exact World.putObj_heap_same (vh hl3),(World.putObj_heap_other (by omega)).trans hd3⟩⟩
 | exit id=>exact hcase.elim
 | goto t=>exact hcase.elim
 | panic ch=>exact hcase.elim
 | outgrown=>exact hcase.elim
theorem y70 {N:Nat} (hX:X.R=none) (hN:X.N=N)
  (lf:List (Nat×Slot)) (b0:Bx) (bx:σ->Bx)
  {n:Nat} (hit:x1y P gf n o) (hC:∀ x,(C x).length=n) (hen:∀ args w,(callFunc gf args).run P w = .ok (.enter gf args) w) (hg:evS (frs lf) gop = .dat (vfn gf [qn [[vlst (l.map C)]] 0 0])) (hl:l.length<=1000000000) (H:back body fin l l.length s0=some r)
  (hf:subF f lf) (ho:subO own b0) (hok0:okL lf b0=true) (nd0:ndB (b0.map (·.1))=true)
  (hb0:∀ A,mkB A (bx s0)=mkB A b0) (nd:∀ s,ndB ((bx s).map (·.1))=true) (hk:∀ s s',(bx s).map kyB=(bx s').map kyB) (hok:∀ A s,okL [] (mkB A (bx s))=true) (hcl:∀ s,(bx s).all (λp=>boxB p.2)=true) (hsim:∀ s,lf.all (λp=>simS (bx s) p.2)=true) (hp0:p0 < N) (hp1:p1 < N)
  (hround:∀ (A:Nat->Nat) (X':Ctx) (k:Nat) (x:α) (s:σ) (q:σ ⊕ ρ),X'.N=N->k < l.length->l[k]?=some x->body k x s=some q->(∀ r',q = .inr r'->r'=r) ->
   AWP P X' asg (λe f1 own1=>e = .normal/\∃ lf1 lo1,subF f1 lf1/\subO own1 lo1/\okL lf1 lo1=true/\lo1.all (λp=>boxB p.2)=true/\ndB (lo1.map (·.1))=true /\
    ∀ X2:Ctx,X2.N=N->AWP P X2 bdy (λe f2 own2=>match e with
     | .normal=>∃ s',q = .inl s'/\subO own2 (mkB A (bx s'))
     | .ret=>∃ lR:Bx,ndB (lR.map (·.1))=true/\lR.map kyB=(bx s).map kyB/\okL [] (mkB A lR)=true/\lR.all (λp=>boxB p.2)=true/\subO own2 (mkB A lR)/\Yl P (frs lf) (ows (mkB A lR)) rs us
     | _=>False) (frs lf1) (ows lo1))
    (updS (updS (frs lf) (some p0) (.dat (vint (k:Int)))) (some p1) (.dat (oneU o (C x)))) (ows (mkB A (bx s))))
  (hdone:∀ (A:Nat->Nat) (X':Ctx) (s:σ),X'.N=N->X'.R=none->fin s=some r->AWP P X' y (λe f2 own2=>(e = .normal∨e = .ret)/\RetL P rs us f2 own2) (frs lf) (ows (mkB A (bx s)))) :
  x8e P X rs us b gop #[p0,p1] asg bdy y f own:=by
 subst hN;intro g0 a w hr0;obtain⟨A,g,hr⟩:=hr0.anchor lf b0 (bx s0) hb0 hf ho hok0 nd0;have ndk:∀ s,ndB ((mkB A (bx s)).map (·.1))=true:=λs=>by rw [Wl];exact nd s
 have hXw:X.w0.heap.size<=w.heap.size:=hr.kp.size;have hgv:=hr.ev gop;rw [hg] at hgv;obtain⟨lb,hfn,hT1,hT2⟩:=hgv;obtain⟨cap,rfl⟩:∃ cap,lb=[cap]:=List.length_eq_one_iff.1 hT1;obtain⟨cap',hc1,hcap⟩:=hT2 0 _ rfl;obtain rfl:cap=cap':=by simpa using hc1
 obtain⟨cb,coff,csz,hcv,hcM,carr,ce,cfz,hc4,hc5,hc6⟩:=hcap;obtain⟨sv,hs1,⟨sA,sc,hs2,hs3,hs4⟩,hs5⟩:=hc6 0 0 _ (vlst (l.map C)) rfl rfl;subst hs2
 have hcap:∀ vals:List (List Value),(∀ W M',Ext (Mof X g (ows (mkB A (bx s0)))) M' w W->(vlst (vals.map λc=>c.map vval)).p W M' (.slice sA (l.map C).length sc)) ->
   ∀ W M',Ext (Mof X g (ows (mkB A (bx s0)))) M' w W->(qn [[vlst (vals.map λc=>c.map vval)]] 0 0).p W M' cap:=λvals hv W M' he=>by
  have h0:xt w (Mof X g (ows (mkB A (bx s0)))) cb coff csz [[vlst (vals.map λc=>c.map vval)]]:=⟨hcM,carr,ce,cfz,hc4,λel hel=>by
   simp only [List.mem_singleton] at hel;subst hel
   exact hc5 [vlst (l.map C)] (by simp),λk c el u hk hc=>by
   cases k with
   | succ k=>simp at hk
   | zero =>
    simp at hk;subst hk
    cases c with
    | succ c=>simp at hc
    | zero =>
     simp at hc;subst hc
     exact⟨_,hs1,hv w _ ⟨Nat.le_refl _,λ_ _ _ _=>rfl,λ_ _ h=>h⟩,hs5⟩⟩
  exact⟨cb,coff,csz,hcv,h0.keep he⟩
 obtain⟨vals,hvl,hvn,hvals,hread⟩:∃ vals:List (List Value),vals.length=l.length/\(∀ c,c∈vals->c.length=n)/\(∀ W M',Ext (Mof X g (ows (mkB A (bx s0)))) M' w W->(vlst (vals.map λc=>c.map vval)).p W M' (.slice sA (l.map C).length sc)) /\
   ∀ (k:Nat) (x:α),l[k]?=some x->∀ W M',Ext (Mof X g (ows (mkB A (bx s0)))) M' w W->(oneU o (C x)).p W M' (oneV o (vals.getD k [])):=by
  by_cases hne:l.map C=[]
  ·have hl0:l=[]:=by simpa using hne
   subst hl0;exact⟨[],rfl,λc hc=>(by cases hc),λW M' _=>⟨sA,sc,rfl,Nat.zero_le _,λh=>absurd rfl h⟩,λk x h=>by simp at h⟩
  ·obtain⟨eb,eoff,esz,he1,he2⟩:=hs4 hne;obtain⟨vals,v1,v2,v3⟩:=w77 he2
   have hesz:esz=n:=by
    obtain⟨_,arr,e,fz,_,hh,_⟩:=he2
    cases hl1:l with
    | nil=>rw [hl1] at hne;exact absurd rfl hne
    | cons x xs=>rw [← hh (C x) (by rw [hl1];simp),hC x]
   have hvn:∀ c,c∈vals->c.length=n:=λc hc=>by
    obtain⟨_,arr,e,fz,_,hh,_⟩:=v2;have:=hh (c.map vval) (List.mem_map.2 ⟨c,hc,rfl⟩);rw [List.length_map] at this;rw [this,hesz]
   refine⟨vals,by rw [v1,List.length_map],hvn,λW M' he=>⟨sA,sc,by rw [← v1,List.length_map],by rw [List.length_map,v1];exact hs3,λ_=>⟨eb,eoff,esz,he1,v2.keep he⟩⟩,λk x hx W M' he=>?_⟩;have he2':=xt.keep he he2;obtain⟨hM,arr,e,fz,h1,_⟩:=he2;exact w2w o (v3 k (C x) (by rw [List.getElem?_map,hx];rfl) W (λarr' e' fz' h1'=>(he.block eb (vh h1) hM ⟨_,h1,rfl⟩).trans h1') M' he2')
 have hExt:∀ {lB g' W},RB X lf A g (bx s0) a w lB g' W->∀ M',(∀ b,b < w.heap.size->M' b->Mof X g (ows (mkB A (bx s0))) b)->Ext (Mof X g (ows (mkB A (bx s0)))) M' w W:=λh M' hM' =>
  ⟨h.sz,λb hb hM hc=>h.st b hb (λhm=>hM (by
   obtain⟨i,o,h1,h2⟩:=Zm.1 hm
   exact .inr ⟨i,o,(uq (ndk s0)).2 h1,h2⟩)) hc,hM'⟩
 refine wpIn_block ?_;refine wpIn_rangeFunc ?_;intro fn _
 have hL1:((w.alloc (.deferred (some []))).alloc (.loop (recL fn a.tmps p0 p1 asg bdy w.heap.size .ready none))).heap[w.heap.size+1]?=some (.loop (recL fn a.tmps p0 p1 asg bdy w.heap.size .ready none)):=by
  have:=World.alloc_heap_new (w.alloc (.deferred (some []))) (.loop (recL fn a.tmps p0 p1 asg bdy w.heap.size .ready none));rwa [World.size_alloc] at this
 have hK1:((w.alloc (.deferred (some []))).alloc (.loop (recL fn a.tmps p0 p1 asg bdy w.heap.size .ready none))).heap[w.heap.size]?=some (.deferred (some [])):=
  (Below.heap_alloc _ _ _ (by simp)).trans (World.alloc_heap_new w _)
 have hkp1:Kp [] w ((w.alloc (.deferred (some []))).alloc (.loop (recL fn a.tmps p0 p1 asg bdy w.heap.size .ready none))):=((Kp.refl [] w).alloc _).alloc _;have hent:=run_enterLoop_outer (P:=P) (w:=w) fn a.tmps #[p0,p1] asg bdy;generalize hW1:(w.alloc (.deferred (some []))).alloc (.loop (recL fn a.tmps p0 p1 asg bdy w.heap.size .ready none))=W1 at hL1 hK1 hkp1;have hRB0:RB X lf A g (bx s0) a w (bx s0) g w:=⟨hr,Nat.le_refl _,λ_ _ _ _=>rfl,λid o b h1 h2=>.inl (Zm.2 ⟨id,o,(uq (ndk s0)).1 h1,h2⟩),hcl s0⟩
 have hcall:=hit vals (Mof X g (ows (mkB A (bx s0)))) (w.heap.size+1) cap (JR X lf A g bx s0 a w body fin l r (recL fn a.tmps p0 p1 asg bdy w.heap.size)) (JxR P X rs us lf A g (bx s0) a w (recL fn a.tmps p0 p1 asg bdy w.heap.size)) W1 (by omega) hvn
  (λm W W' ⟨s,g',h1,h2,h3,h4⟩ hk'=>⟨s,g',h1,h2.grow hk',(hk'.block _ (vh h3) (by simp)).trans h3,(hk'.block _ (vh h4) (by simp)).trans h4⟩)
  (λm W ⟨s,g',h1,h2,h3,h4⟩=>⟨⟨λb hb=>Nat.lt_of_lt_of_le (hr.mlt.1 b hb) h2.sz,h2.rel.mlt.2.1,hr.mlt.2.2⟩,hcap vals hvals W _ (hExt h2 _ λ_ _ h=>h)⟩)
  (λm W hm hJ=>w14 nd hk hok hcl hsim hp0 hp1 hround hXw (by omega) (λx hx lB g' h2=>hread m x hx W _ (hExt h2 _ λb hb hM=>by
   rcases hM with hM|⟨i,o,o1,o2⟩
   ·exact .inl hM
   ·rcases h2.mn i o b o1 o2 with o3|o3
    ·obtain⟨i',o',p1',p2'⟩:=Zm.1 o3;exact .inr ⟨i',o',(uq (ndk s0)).2 p1',p2'⟩
    ·omega)) hJ)
  (by rw [hvl];exact⟨s0,g,H,hRB0.grow hkp1,hL1,hK1⟩)
 have hres:(resolve a.eval (rangeCall gop (w.heap.size+1)) 0).run P W1 = .ok { target:=.fn (.func gf) #[cap],args:=#[.func (.yield (w.heap.size+1)) #[] #[]] } W1:=by
  simp only [resolve,hfn];simp [go_sem]
 have hinv:(invoke (.fn (.func gf) #[cap]) #[.func (.yield (w.heap.size+1)) #[] #[]]).run P W1 = .ok (.enter gf #[.func (.yield (w.heap.size+1)) #[] #[],cap]) W1:=by
  simp [invoke,go_sem,hen]
 have hX3:∀ (W2:World) (lB:Bx) (g':Gh) (o':Obj) {st pe},RB X lf A g (bx s0) a w lB g' W2->W2.heap[w.heap.size+1]?=some (.loop (recL fn a.tmps p0 p1 asg bdy w.heap.size st pe))->W2.heap[w.heap.size]?=some (.deferred (some [])) ->
   RB X lf A g (bx s0) a w lB g' (W2.putObj (w.heap.size+1) o')/\(W2.putObj (w.heap.size+1) o').heap[w.heap.size]?=some (.deferred (some [])):=λW2 lB g' o' st pe h2 h3 h4 =>
  ⟨h2.put o' h3 rfl (by omega) hXw,(World.putObj_heap_other (by omega)).trans h4⟩
 refine⟨w.heap.size+1,[Yt w.heap.size],W1,_,W1,gf,_,W1,by rw [← hW1];exact hent,hres,λ_ _=>trivial,hinv,λh=>by simp [Fence.wide] at h,?_⟩;refine CallsIn.mono hcall ?_;rintro e W2 ⟨⟨v,rfl⟩,(⟨s,g',h1,h2,h3,h4⟩|⟨lR,g',hres,ndR,h2,h3,h4⟩)⟩
 ·obtain⟨h5,h6⟩:=hX3 W2 (bx s) g' (.loop (recL fn a.tmps p0 p1 asg bdy w.heap.size .exhausted none)) h2 h3 h4;refine⟨none,_,run_endLoop (P:=P) h3 (by simp [recL]),?_⟩;have h7:=h5.rel.here (ndk s) none (Yt w.heap.size::X.D) (a':={ a with defers:=Yt w.heap.size::a.defers }) h5.rel.n (by show _::a.defers=_;rw [h5.rel.df]) h5.rel.fr;obtain⟨X3,hX3⟩:∃ X3,X3=Yj X g' (mkB A (bx s)) (W2.putObj (w.heap.size+1) (.loop (recL fn a.tmps p0 p1 asg bdy w.heap.size .exhausted none))) none (Yt w.heap.size::X.D):=⟨_,rfl⟩
  have hd:=hdone A X3 s (by rw [hX3];rfl) (by rw [hX3];rfl) h1 g' _ _ (by rw [hX3];exact h7);have hR3:X3.R=none:=by rw [hX3];rfl
  rw [hR3] at hd;refine wpIn_mono hd ?_;rintro e a3 W3 ⟨f2,own2,g2,k5,he,lf',lo',r1,r2,r3,r4,r5⟩;rw [hX3] at k5;obtain⟨g3,k6⟩:=k5.less lf' lo' r1 r2 r3;have k7:=(Rel.rebase h5.rel (ndk s) k6).setD X.D rfl;have kpc:=k6.kp;exact⟨he,lf',lo',g3,r4,r5,.inr ⟨w.heap.size,k6.df,hXw,(kpc.block _ (vh h6) (Qp h5.rel (ndk s) (z2p A h5.bx) h6 rfl)).trans h6,k7⟩⟩
 ·obtain⟨h5,h6⟩:=hX3 W2 lR g' (.loop (recL fn a.tmps p0 p1 asg bdy w.heap.size .exhausted (some .ret))) h2 h3 h4;refine⟨some .ret,_,run_endLoop (P:=P) h3 (by simp [recL]),?_⟩;refine wpIn_ret ⟨.inr rfl,lf,mkB A lR,g',z2p A h5.bx,hres,.inr ⟨w.heap.size,?_,hXw,h6,?_⟩⟩
  ·show Yt w.heap.size::a.defers=_;rw [h5.rel.df]
  ·exact⟨h5.rel.kp,h5.rel.m0,h5.rel.n,rfl,h5.rel.fr,h5.rel.ob,h5.rel.sep,h5.rel.mine,h5.rel.fresh,h5.rel.top⟩
end
end
def repL (W:World) (M:Blks) (a:Act):List (Nat×V)->Prop
 | []=>True
 | (t,u)::l=>u.p W M (a.tmps.getD t undef)/\repL W M a l
def datL (l:List (Nat×V)):List (Nat×Slot):=l.map λp=>(p.1,.dat p.2)
theorem z85 {W:World} {M:Blks} {a:Act} {g:Gh}:∀ (l:List (Nat×V)),repL W M a l->∀ t,RepS g W M (frs (datL l) t) (a.tmps.getD t undef)
 | [],_,t=>trivial
 | (k,u)::l,h,t=>by
  show RepS g W M (cond (Nat.beq t k) (.dat u) (frs (datL l) t)) _
  by_cases hk:t=k
  ·subst hk;have:Nat.beq t t=true:=by simp
   rw [this];exact h.1
  ·rw [qz hk];exact z85 l h.2 t
theorem z0v {P:Program} {c:Code} {W:World} {M:Blks} {N:Nat} {a:Act} (hM:Mlt W M) (hN:a.tmps.size=N) (hD:a.defers=[]) (lf:List (Nat×V)) (hr:repL W M a lf) {Q:Exit->(Nat->Slot)->Prop}
  (h:∀ X:Ctx,X.N=N->AWP P X c (λe f _=>Q e f) (frs (datL lf)) (λ_=>none)) :
  c.wpIn (FR none) 0 P (λe a' W'=>Kp [] W W'/\a'.tmps.size=N/\a'.defers=[]/\∃ (f:Nat->Slot) (own:Own) (g:Gh) (M':Blks),(∀ t,RepS g W' M' (f t) (a'.tmps.getD t undef))/\Q e f) a W:=by
 have h0:=h ⟨M,W,[],N,none,[]⟩ rfl ⟨λ_=>none,λ_ _=>none⟩ a W ⟨Kp.refl _ _,⟨λb hb=>⟨hM.1 b hb,by simp⟩,hM.2.1,λb hb=>⟨hM.2.2 b hb,by simp⟩⟩,hN,hD,λt=>?_,λid o ho=>(by cases ho),λid _ o _ b ho=>(by cases ho),λid o b ho=>(by cases ho),λid _=>⟨rfl,λ_=>rfl⟩,λid e size es h=>(by cases h)⟩
 ·refine wpIn_mono h0 ?_;rintro e a' W' ⟨f',own',g',k,hq⟩;exact⟨k.kp,k.n,k.df,f',own',g',_,k.fr,hq⟩
 ·have h1:=z85 (g:=⟨λ_=>none,λ_ _=>none⟩) lf hr t
  cases hs:frs (datL lf) t with
  | dat u =>
   rw [hs] at h1
   exact u.keep (M:=M) ⟨Nat.le_refl _,λ_ _ _ _=>rfl,λb _ hb=>by
    rcases hb with hb|⟨id,o,ho,_⟩
    ·exact hb
    ·cases ho⟩ h1
  | any=>trivial
  | ptr _ _=>rw [hs] at h1;obtain⟨b,h2,_⟩:=h1;cases h2
  | row _ _=>rw [hs] at h1;cases h1
  | rptr _ _ _ _ _=>rw [hs] at h1;obtain⟨b,cap,h2,_⟩:=h1;cases h2
  | mp _=>rw [hs] at h1;obtain⟨b,h2,_⟩:=h1;cases h2
  | rsub _ _ _ _=>rw [hs] at h1;obtain⟨b,cap,h2,_⟩:=h1;cases h2
  | dr _ _=>rw [hs] at h1;obtain⟨b,h2,_⟩:=h1;cases h2
  | comp _ _ =>
   rw [hs] at h1;refine ub.mono h1 λc x _ hx=>?_
   cases c with
   | dat u=>exact u.keep (M:=M) ⟨Nat.le_refl _,λ_ _ _ _=>rfl,λb _ hb=>by
     rcases hb with hb|⟨id,o,ho,_⟩
     ·exact hb
     ·cases ho⟩ hx
   | ptr _ _=>obtain⟨b,h2,_⟩:=hx;cases h2
   | row _ _=>cases hx
   | mp _=>obtain⟨b,h2,_⟩:=hx;cases h2
  | nptr _ =>
   rw [hs] at h1;rcases h1 with h1|⟨b,h2,_⟩
   ·rw [h1];exact .inl rfl
   ·cases h2
theorem z2e {P:Program} {X:Ctx} {ops:Array Oper} {Q:Exit->Act->World->Prop} (hN:kz X.N ops=true) :
  ∀ (os rest:List Oper) (i:Nat) (f:Nat->Slot) (own:Own) (lg:List (List Nat×List Nat)) (g:Gh) (a:Act) (w:World),ops.toList.drop i=os++rest->Rel X f own g a w ->
   seqA P ops os f own lg (λf' own' _=>∀ g a w,Rel X f' own' g a w->wpOpsIn (FR X.R) 0 P ops Q (List.range' (i+os.length) rest.length) a w) ->
   wpOpsIn (FR X.R) 0 P ops Q (List.range' i (os.length+rest.length)) a w:=by
 intro os
 induction os with
 | nil=>intro rest i f own lg g a w _ hr h;simpa using h g a w hr
 | cons o os ih =>
  intro rest i f own lg g a w hos hr h
  have hlt:i < ops.size:=by
   have h2:=congrArg List.length hos;simp only [List.length_drop,List.length_cons,List.length_append,Array.length_toList] at h2;omega
  have h2:=List.drop_eq_getElem_cons (l:=ops.toList) (i:=i) (by simpa using hlt);rw [hos] at h2;injection h2 with h3 h4
  have hoi:ops[i]?=some o:=by
   rw [Array.getElem?_eq_getElem hlt];exact congrArg some h3.symm
  obtain⟨T,⟨hgd,hrun,hskip,_⟩,h6⟩:=h;obtain⟨hdN,hdf⟩:=Wj hN hoi;rw [List.length_cons,show os.length+1+rest.length=(os.length+rest.length)+1 by omega,List.range'_succ,wpOpsIn_cons];rw [show i+(o::os).length=i+1+os.length by simp only [List.length_cons];omega] at h6;unfold wpOpIn;rw [hoi];have hw:Region.wanted o (yielded ops a.tmps) = !T.skip:=z4c hr hgd
  cases hsk:T.skip with
  | false =>
   rw [hsk] at hw;simp only [hw,Bool.not_false,if_true];obtain⟨hst,hrd⟩:=hrun hsk;exact Qs hdf (hst X _ _ g a w _ hr hdN (λx _=>rfl) hrd _ (λg' v w' hr'=>ih rest (i+1) _ _ _ g' _ w' h4.symm hr' h6))
  | true =>
   rw [hsk] at hw;simp only [hw,Bool.not_true,Bool.false_eq_true,if_false];obtain⟨e1,e2,e3⟩:=hskip hsk;refine⟨λ_ _=>trivial,ih rest (i+1) _ _ _ g _ w h4.symm ?_ h6⟩;rw [e1,e3];exact hr.put o.dst (.dat (vval undef)) undef hdN rfl
theorem opsR {P:Program} {X:Ctx} {ops:Array Oper} {Q:Exit->Act->World->Prop} {a:Act} {w:World} {n:Nat} (h:X.R=none) (hn:ops.size=n) (h2:wpOpsIn (FR X.R) 0 P ops Q (List.range' 0 n) a w):wpOpsIn Fence.wide 0 P ops Q (List.range ops.size) a w:=by
 rw [h] at h2;subst hn;rw [List.range_eq_range'];exact h2
theorem opsT {P:Program} {ops:Array Oper} {Q:Exit->Act->World->Prop} {W:World} {M:Blks} {N i:Nat} {a:Act} {os:List Oper} (hM:Mlt W M) (hN:a.tmps.size=N) (hD:a.defers=[]) (lf:List (Nat×V)) (hr:repL W M a lf) {Q':(Nat->Slot)->Prop} (hdr:ops.toList.drop i=os) (hdN:kz N ops=true)
  (h:∀ X:Ctx,X.N=N->seqA P ops os (frs (datL lf)) (λ_=>none) [] λf' _ _=>Q' f')
  (hQ:∀ (a':Act) (W':World),Kp [] W W'->a'.tmps.size=N->a'.defers=[]->∀ (f:Nat->Slot) (g:Gh) (M':Blks),(∀ t,RepS g W' M' (f t) (a'.tmps.getD t undef))->Q' f->Q .normal a' W'):wpOpsIn Fence.wide 0 P ops Q (List.range' i os.length) a W:=by
 have hrel:Rel ⟨M,W,[],N,none,[]⟩ (frs (datL lf)) (λ_=>none) ⟨λ_=>none,λ_ _=>none⟩ a W:=by
  refine⟨Kp.refl _ _,⟨λb hb=>⟨hM.1 b hb,by simp⟩,hM.2.1,λb hb=>⟨hM.2.2 b hb,by simp⟩⟩,hN,hD,λt=>?_,λid o ho=>(by cases ho),λid _ o _ b ho=>(by cases ho),λid o b ho=>(by cases ho),λid _=>⟨rfl,λ_=>rfl⟩,λid e size es h=>(by cases h)⟩;have h1:=z85 (g:=⟨λ_=>none,λ_ _=>none⟩) lf hr t
  cases hs:frs (datL lf) t with
  | dat u =>
   rw [hs] at h1
   exact u.keep (M:=M) ⟨Nat.le_refl _,λ_ _ _ _=>rfl,λb _ hb=>by
    rcases hb with hb|⟨id,o,ho,_⟩
    ·exact hb
    ·cases ho⟩ h1
  | any=>trivial
  | ptr _ _=>rw [hs] at h1;obtain⟨b,h2,_⟩:=h1;cases h2
  | row _ _=>rw [hs] at h1;cases h1
  | rptr _ _ _ _ _=>rw [hs] at h1;obtain⟨b,cap,h2,_⟩:=h1;cases h2
  | mp _=>rw [hs] at h1;obtain⟨b,h2,_⟩:=h1;cases h2
  | rsub _ _ _ _=>rw [hs] at h1;obtain⟨b,cap,h2,_⟩:=h1;cases h2
  | dr _ _=>rw [hs] at h1;obtain⟨b,h2,_⟩:=h1;cases h2
  | comp _ _ =>
   rw [hs] at h1;refine ub.mono h1 λc x _ hx=>?_
   cases c with
   | dat u=>exact u.keep (M:=M) ⟨Nat.le_refl _,λ_ _ _ _=>rfl,λb _ hb=>by
     rcases hb with hb|⟨id,o,ho,_⟩
     ·exact hb
     ·cases ho⟩ hx
   | ptr _ _=>obtain⟨b,h2,_⟩:=hx;cases h2
   | row _ _=>cases hx
   | mp _=>obtain⟨b,h2,_⟩:=hx;cases h2
  | nptr _ =>
   rw [hs] at h1;rcases h1 with h1|⟨b,h2,_⟩
   ·rw [h1];exact .inl rfl
   ·cases h2
 have:=z2e (P:=P) (X:=⟨M,W,[],N,none,[]⟩) (ops:=ops) (Q:=Q) hdN os [] i _ _ [] _ a W (by simpa using hdr) hrel ?_
 ·have h':wpOpsIn (FR none) 0 P ops Q (List.range' i os.length) a W:=by simpa using this
  exact h'
 ·have key:∀ (os:List Oper) (f:Nat->Slot) (own:Own) (lg:List (List Nat×List Nat)) (K K':(Nat->Slot)->Own->List (List Nat×List Nat)->Prop),(∀ f own lg,K f own lg->K' f own lg)->seqA P ops os f own lg K->seqA P ops os f own lg K':=by
   intro os
   induction os with
   | nil=>intro f own lg K K' hK h;exact hK _ _ _ h
   | cons o os ih=>intro f own lg K K' hK ⟨T,h1,h2⟩;exact⟨T,h1,ih _ _ _ K K' hK h2⟩
  refine key os _ _ _ _ _ (λf' own' _ hq g' a' w' k=>?_) (h ⟨M,W,[],N,none,[]⟩ rfl);exact hQ a' w' k.kp k.n k.df f' g' _ k.fr hq
theorem z7y {P:Program} {ops:Array Oper} {Q:Exit->Act->World->Prop} {i l:Nat} {rest:List Nat} {a:Act} {w:World} {o:Oper} {t:Tmp} {xs:Array Operand} {ts:Array TypeId} {args:Array Value} {fn:FuncId} {tm:Array Value} {asg bdy:Code} (ho:ops[i]?=some o) (hgd:o.guard=none)
  (hop:o.op = .call { callee:=.value (.tmp t),args:=xs,argTypes:=ts }) (hx:a.tmps.getD t undef = .func (.yield l) #[] #[]) (hargs:xs.map a.eval=args) (hrun:(Instr.yield l args).run P w = .ok (.round l fn tm asg bdy) w)
  (hR:RoundIn Fence.wide 0 P l fn tm asg bdy w λe w'=>∃ v,e = .returned v/\wpOpsIn Fence.wide 0 P ops Q rest (a.put o.dst v) w'):wpOpsIn Fence.wide 0 P ops Q (i::rest) a w:=by
 rw [wpOpsIn_cons];unfold wpOpIn;rw [ho];have hw:Region.wanted o (yielded ops a.tmps)=true:=by unfold Region.wanted;rw [hgd]
 simp only [hw,if_true];refine⟨λ_ _=>trivial,?_⟩;rw [Oper.semAt_eq Fence.wide.round a.eval o (λc hc=>by rw [hop] at hc;cases hc)]
 have hrun':(execOp a.eval o).run P w = .ok (.round l fn tm asg bdy) w:=by
  have hx':a.tmps[t]?.getD undef = .func (.yield l) #[] #[]:=by rw [← hx,Array.getD_eq_getD_getElem?]
  simp [execOp,hop,resolve,hx',invoke,go_sem,hargs,hrun]
 rw [hrun',Oper.uponIn_round];refine⟨λh=>by simp [Fence.wide] at h,hR.mono ?_⟩;rintro e w' ⟨v,rfl,h⟩;exact h
abbrev yv (l:Nat):Value:=.func (.yield l) #[] #[]
end Go.Proofs.YtbpedjpoikmbjaaGreatDoor
