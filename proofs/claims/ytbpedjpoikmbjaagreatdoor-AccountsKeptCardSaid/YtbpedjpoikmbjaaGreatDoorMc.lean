import Derived.Test.YtbpedjpoikmbjaaGreatDoorMb
import Derived.Laws.BytesArg
import Derived.Lib.SliceRun
import Derived.Test.YtbpedjpoikmbjaaGreatDoorMa
import Derived.Lib.Bytealg
import Derived.Lib.IndexAny
import Derived.Lib.Repeat
import Derived.Lib.Strings
import Derived.Lib.SplitLaws
import Derived.Lib.SlicesCompact
import Derived.Lib.TrailingZeros
import Derived.Lib.Join
import Derived.Lib.Case
import Derived.Lib.ItoaNum
import Derived.Lib.IndexMore
import Derived.Lib.Replace
import Derived.Lib.Index
import Derived.Lib.Fold
import Derived.Lib.SlTrimSet
import Derived.Lib.LazyBuf
import Derived.Sort.Grow
import Derived.Shelf.Spec.SlicesGrow
namespace Go.Proofs.YtbpedjpoikmbjaaGreatDoor
open Go.RowKit
set_option linter.unusedVariables false

def cnS (c:Bool) (s:Slot):Slot:=match c with
 | true=>s
 | false=>.dat (vval undef)
theorem cnd {c:Bool} {s:Slot} (h:c=true):cnS c s=s:=by rw [h];rfl
theorem bTT {b:Bool} (h:b=true):(b != true)=false:=by rw [h];rfl
theorem bFF {b:Bool} (h:b=false):(b != false)=false:=by rw [h];rfl
theorem un1 {b:Bool} (h:(b != true)=false):b=true:=by simpa using h
theorem un2 {b:Bool} (h:(b != true)=true):b=false:=by simpa using h
theorem un3 {b:Bool} (h:(b != false)=false):b=false:=by simpa using h
theorem un4 {b:Bool} (h:(b != false)=true):b=true:=by simpa using h
theorem u1 {α:Type} {b:Bool} {x y r:Option α} {G:Prop} (h:(b != true)=false) (H:(if b=true then x else y)=r) (k:b=true->x=r->G):G:=k (un1 h) (ift (un1 h) H)
theorem u2 {α:Type} {b:Bool} {x y r:Option α} {G:Prop} (h:(b != true)=true) (H:(if b=true then x else y)=r) (k:b=false->y=r->G):G:=k (un2 h) (iff_ (un2 h) H)
theorem u3 {α:Type} {b:Bool} {x y r:Option α} {G:Prop} (h:(b != false)=false) (H:(if b=true then x else y)=r) (k:b=false->y=r->G):G:=k (un3 h) (iff_ (un3 h) H)
theorem u4 {α:Type} {b:Bool} {x y r:Option α} {G:Prop} (h:(b != false)=true) (H:(if b=true then x else y)=r) (k:b=true->x=r->G):G:=k (un4 h) (ift (un4 h) H)
theorem andI {a b:Bool} (h:a=true) (h':b=true):(a && b)=true:=by rw [h,h'];rfl
theorem notI {a:Bool} (h:a=false):(!a)=true:=by rw [h];rfl

def leL (a b:List Nat):Prop:=∀ x,x∈a->x∈b
def LgLe:List (List Nat×List Nat)->List (List Nat×List Nat)->Prop
 | [],[]=>True
 | a::l,b::l'=>(leL a.1 b.1/\leL a.2 b.2)/\LgLe l l'
 | _,_=>False
theorem LgLe.refl:∀ l,LgLe l l
 | []=>trivial
 | _::l=>⟨⟨λ_ h=>h,λ_ h=>h⟩,LgLe.refl l⟩
def z7v (K:(Nat->Slot)->Own->List (List Nat×List Nat)->Prop):Prop:=∀ f own lg lg',LgLe lg lg'->K f own lg'->K f own lg
theorem jv {Q:(Nat->Slot)->Own->Prop}:z7v λf own _=>Q f own:=λ_ _ _ _ _ h=>h
theorem x4a {P:Program} {ops:Array Oper} {K:(Nat->Slot)->Own->List (List Nat×List Nat)->Prop} (hK:z7v K):∀ (os:List Oper) (f:Nat->Slot) (own:Own) (lg lg':List (List Nat×List Nat)),LgLe lg lg'->seqA P ops os f own lg' K->seqA P ops os f own lg K
 | [],f,own,lg,lg',h,hs=>hK f own lg lg' h hs
 | o::os,f,own,lg,lg',h,hs=>by
  obtain⟨T,h1,h2⟩:=hs;exact⟨T,h1,x4a hK os _ _ _ ((keys T.rd,keys T.wr)::lg') ⟨⟨λ_ h=>h,λ_ h=>h⟩,h⟩ h2⟩

section
variable {P:Program} {ops:Array Oper} {os:List Oper} {f:Nat->Slot} {own:Own} {lg:List (List Nat×List Nat)} {K:(Nat->Slot)->Own->List (List Nat×List Nat)->Prop}
variable {dst:Option Tmp} {op:Op} {ty:TypeId} {pos:String} {af:Array Edge} {s:Slot}
theorem y2z {j d:Nat} {want c:Bool} {v:Value} (h1:(ops[j]?).bind (·.dst)=some d) (h2:f d = .dat (vval v)) (h3:Wv v want = !c) (hst:c=true->Stp P ⟨dst,op,ty,pos,af,some (j,want)⟩ f ⟨false,[],[],s⟩) (h:seqA P ops os (updS f dst (cnS c s)) own (([],[])::lg) K) :
  seqA P ops (⟨dst,op,ty,pos,af,some (j,want)⟩::os) f own lg K:=by
 cases c with
 | true=>exact⟨⟨false,[],[],s⟩,⟨⟨d,v,h1,h2,h3.symm⟩,λ_=>⟨hst rfl,λq hq=>(by cases hq)⟩,λh=>(by cases h),λk hk=>(by cases hk)⟩,h⟩
 | false=>exact⟨⟨true,[],[],.dat (vval undef)⟩,⟨⟨d,v,h1,h2,h3.symm⟩,λh=>(by cases h),λ_=>⟨rfl,rfl,rfl⟩,λk hk=>(by cases hk)⟩,h⟩
theorem y7s (hA:z7v K) {j d:Nat} {want c:Bool} {v:Value} {id:Nat} {q:Option (Option AObj)} (h1:(ops[j]?).bind (·.dst)=some d) (h2:f d = .dat (vval v)) (h3:Wv v want = !c) (hst:c=true->Stp P ⟨dst,op,ty,pos,af,some (j,want)⟩ f ⟨false,[(id,q)],[],s⟩) (hq:own id=q) (h:seqA P ops os (updS f dst (cnS c s)) own (([id],[])::lg) K) :
  seqA P ops (⟨dst,op,ty,pos,af,some (j,want)⟩::os) f own lg K:=by
 cases c with
 | true=>exact⟨⟨false,[(id,q)],[],s⟩,⟨⟨d,v,h1,h2,h3.symm⟩,λ_=>⟨hst rfl,λq' hq'=>(by simp only [List.mem_singleton] at hq';subst hq';exact hq)⟩,λh=>(by cases h),λk hk=>(by cases hk)⟩,h⟩
 | false=>exact⟨⟨true,[],[],.dat (vval undef)⟩,⟨⟨d,v,h1,h2,h3.symm⟩,λh=>(by cases h),λ_=>⟨rfl,rfl,rfl⟩,λk hk=>(by cases hk)⟩,x4a hA os _ _ _ (([id],[])::lg) ⟨⟨λx hx=>(nomatch hx),λx hx=>(nomatch hx)⟩,LgLe.refl lg⟩ h⟩
section
variable {j d:Nat} {b:Bool}
theorem gsT:Wv (.bool b) true = !b:=by cases b <;> rfl
theorem gsF:Wv (.bool b) false = !(!b):=by cases b <;> rfl
theorem x0x {c b:Bool}:cnS c (.dat (zt b)) = .dat (vval (cond c (.bool b) undef)):=by cases c <;> rfl
theorem gcT {c b:Bool}:Wv (cond c (.bool b) undef) true = !(c && b):=by cases c <;> cases b <;> rfl
theorem gcF {c b:Bool}:Wv (cond c (.bool b) undef) false = !(c && !b):=by cases c <;> cases b <;> rfl
theorem qp (h1:(ops[j]?).bind (·.dst)=some d) (h2:f d = .dat (zt b)) (hst:b=true->Stp P ⟨dst,op,ty,pos,af,some (j,true)⟩ f ⟨false,[],[],s⟩) (h:seqA P ops os (updS f dst (cnS b s)) own (([],[])::lg) K) :
  seqA P ops (⟨dst,op,ty,pos,af,some (j,true)⟩::os) f own lg K:=y2z h1 h2 gsT hst h
theorem jt (h1:(ops[j]?).bind (·.dst)=some d) (h2:f d = .dat (zt b)) (hst:(!b)=true->Stp P ⟨dst,op,ty,pos,af,some (j,false)⟩ f ⟨false,[],[],s⟩) (h:seqA P ops os (updS f dst (cnS (!b) s)) own (([],[])::lg) K) :
  seqA P ops (⟨dst,op,ty,pos,af,some (j,false)⟩::os) f own lg K:=y2z h1 h2 gsF hst h
theorem xd {c:Bool} (h1:(ops[j]?).bind (·.dst)=some d) (h2:f d=cnS c (.dat (zt b))) (hst:(c && b)=true->Stp P ⟨dst,op,ty,pos,af,some (j,true)⟩ f ⟨false,[],[],s⟩) (h:seqA P ops os (updS f dst (cnS (c && b) s)) own (([],[])::lg) K) :
  seqA P ops (⟨dst,op,ty,pos,af,some (j,true)⟩::os) f own lg K:=y2z h1 (h2.trans x0x) gcT hst h
theorem Zf {c:Bool} (h1:(ops[j]?).bind (·.dst)=some d) (h2:f d=cnS c (.dat (zt b))) (hst:(c && !b)=true->Stp P ⟨dst,op,ty,pos,af,some (j,false)⟩ f ⟨false,[],[],s⟩) (h:seqA P ops os (updS f dst (cnS (c && !b) s)) own (([],[])::lg) K) :
  seqA P ops (⟨dst,op,ty,pos,af,some (j,false)⟩::os) f own lg K:=y2z h1 (h2.trans x0x) gcF hst h
variable {id:Nat} {q:Option (Option AObj)}
theorem uo (h1:(ops[j]?).bind (·.dst)=some d) (h2:f d = .dat (zt b)) (hst:b=true->Stp P ⟨dst,op,ty,pos,af,some (j,true)⟩ f ⟨false,[(id,q)],[],s⟩) (hq:own id=q) (hA:z7v K) (h:seqA P ops os (updS f dst (cnS b s)) own (([id],[])::lg) K) :
  seqA P ops (⟨dst,op,ty,pos,af,some (j,true)⟩::os) f own lg K:=y7s hA h1 h2 gsT hst hq h
theorem y20 (h1:(ops[j]?).bind (·.dst)=some d) (h2:f d = .dat (zt b)) (hst:(!b)=true->Stp P ⟨dst,op,ty,pos,af,some (j,false)⟩ f ⟨false,[(id,q)],[],s⟩) (hq:own id=q) (hA:z7v K) (h:seqA P ops os (updS f dst (cnS (!b) s)) own (([id],[])::lg) K) :
  seqA P ops (⟨dst,op,ty,pos,af,some (j,false)⟩::os) f own lg K:=y7s hA h1 h2 gsF hst hq h
theorem x38 {c:Bool} (h1:(ops[j]?).bind (·.dst)=some d) (h2:f d=cnS c (.dat (zt b))) (hst:(c && !b)=true->Stp P ⟨dst,op,ty,pos,af,some (j,false)⟩ f ⟨false,[(id,q)],[],s⟩) (hq:own id=q) (hA:z7v K) (h:seqA P ops os (updS f dst (cnS (c && !b) s)) own (([id],[])::lg) K) :
  seqA P ops (⟨dst,op,ty,pos,af,some (j,false)⟩::os) f own lg K:=y7s hA h1 (h2.trans x0x) gcF hst hq h
end
def y5x (own:Own):List (Nat×Option (Option AObj))->Prop
 | []=>True
 | (i,q)::l=>own i=q/\y5x own l
theorem x1p:∀ {l:List (Nat×Option (Option AObj))},y5x own l->∀ q,q∈l->own q.1=q.2
 | [],_,q,h=>by cases h
 | _::l,h,q,hq=>by
  rcases List.mem_cons.1 hq with rfl|hq
  ·exact h.1
  ·exact x1p h.2 q hq
def z7o (σ:Nat->Nat) (args:List Slot) (res:Slot) (L:List Ent) (nw:List (Nat×AObj)):Bool:=
 ndB (vz L nw) && ndB ((vz L nw).map σ) && L.all (λe=>wj e.2.1 e.2.2.2) && nw.all (λp=>newB p.2 && okQ (ows (vk L nw)) p.2) && (args.all (okS (ows (jg L))) && (jg L).all λp=>okO (ows (jg L)) p.2) && (okT (ows (vk L nw)) res && (vk L nw).all λp=>okP (ows (vk L nw)) p.2)
theorem y23 (σ:Nat->Nat) (L:List Ent) (nw:List (Nat×AObj)):keys (rdOf σ L nw)=(vz L nw).map σ:=by
 unfold keys rdOf vz;simp only [List.map_append,List.map_map];rfl
theorem w00 {gd:Option (Nat×Bool)} {fn:Nat} {xs:List Operand} {ts:Array TypeId} {args:List Slot} {res:Slot} {σ:Nat->Nat} {L:List Ent} {nw:List (Nat×AObj)} (hF:FnG P fn args (jg L) res (vk L nw)) (ha:z4a f σ xs args) (hm:matL σ L) (hb:z7o σ args res L nw=true) :
  Stp P ⟨dst,.call { callee:=.value (.func fn),args:=xs.toArray,argTypes:=ts },ty,pos,af,gd⟩ f ⟨false,rdOf σ L nw,wrOf σ L nw,rnS σ res⟩:=by
 unfold z7o at hb;simp only [Bool.and_eq_true_iff] at hb;obtain⟨⟨⟨⟨⟨h1,h2⟩,h3⟩,h4⟩,h5⟩,h6⟩:=hb;exact w0z σ L nw hF ha hm h1 h2 h3 h4 (by simp only [Bool.and_eq_true_iff];exact h5) (by simp only [Bool.and_eq_true_iff];exact h6)
theorem kh {fn:Nat} {xs:List Operand} {ts:Array TypeId} {args:List Slot} {res:Slot} (σ:Nat->Nat) (L:List Ent) (nw:List (Nat×AObj)) (hF:FnG P fn args (jg L) res (vk L nw)) (hrd:y5x own (rdOf σ L nw)) (ha:z4a f σ xs args) (hm:matL σ L) (hb:z7o σ args res L nw=true)
  (h:seqA P ops os (updS f dst (rnS σ res)) (upl own (wrOf σ L nw)) (((vz L nw).map σ,(vz L nw).map σ)::lg) K) :
  seqA P ops (⟨dst,.call { callee:=.value (.func fn),args:=xs.toArray,argTypes:=ts },ty,pos,af,none⟩::os) f own lg K:=
 ⟨⟨false,rdOf σ L nw,wrOf σ L nw,rnS σ res⟩,⟨rfl,λ_=>⟨w00 hF ha hm hb,x1p hrd⟩,λh=>(by cases h),λk hk=>by rw [y23];rw [z4b] at hk;exact hk⟩,by
  have e1:(keys (rdOf σ L nw),keys (wrOf σ L nw))=((vz L nw).map σ,(vz L nw).map σ):=by rw [y23,z4b]
  show seqA P ops os _ _ ((keys (rdOf σ L nw),keys (wrOf σ L nw))::lg) K
  rw [e1];exact h⟩
end
section
variable {P:Program} {f:Nat->Slot} {dst:Option Tmp} {ty:TypeId} {pos:String} {af:Array Edge} {gd:Option (Nat×Bool)}
theorem jc {c x y:Operand} {b p:Bool} (hc:evS f c = .dat (zt b)) (hx:b=true->evS f x = .dat (zt p)) (hy:evS f y = .dat (zt false)):Stp P ⟨dst,.pick c x y,ty,pos,af,gd⟩ f ⟨false,[],[],.dat (zt (b && p))⟩:=by
 cases b with
 | true=>exact wh hc rfl (hx rfl)
 | false=>exact wc hc rfl hy
theorem xn {c x y:Operand} {b q:Bool} (hc:evS f c = .dat (zt b)) (hx:evS f x = .dat (zt true)) (hy:b=false->evS f y = .dat (zt q)):Stp P ⟨dst,.pick c x y,ty,pos,af,gd⟩ f ⟨false,[],[],.dat (zt (b || q))⟩:=by
 cases b with
 | true=>exact wh hc rfl hx
 | false=>exact wc hc rfl (hy rfl)
end
end Go.Proofs.YtbpedjpoikmbjaaGreatDoor
namespace Go.Proofs.YtbpedjpoikmbjaaGreatDoor
open Go.RowKit
set_option linter.unusedVariables false
def subW (f:Nat->Slot):List (Nat×Slot)->Prop
 | []=>True
 | (a,s)::l=>(f a=s∨(f a = .dat vnil/\s = .dat (vlst [])))/\subW f l
theorem y6l {f:Nat->Slot}:∀ {l:List (Nat×Slot)},subW f l->∀ a s,(a,s)∈l->f a=s∨(f a = .dat vnil/\s = .dat (vlst []))
 | [],_,a,s,h=>by cases h
 | (b,r)::l,h,a,s,hm=>by
  rcases List.mem_cons.1 hm with e|hm
  ·cases e;exact h.1
  ·exact y6l h.2 a s hm
theorem y6m {f:Nat->Slot}:∀ {l:List (Nat×Slot)},(keys l).Nodup->∀ (m:List (Nat×Slot)),(∀ a s,(a,s)∈m->(a,s)∈l)->subF (upl f l) m
 | l,nd,[],_=>trivial
 | l,nd,(a,s)::m,h=>⟨by
   rcases z4d f l a with ⟨h1,_⟩|⟨q,h1,h2⟩
   ·exact absurd (List.mem_map.2 ⟨(a,s),h a s (by simp),rfl⟩) h1
   ·rw [h2];exact (x5e (k:=a) nd h1 (h a s (by simp))).symm,y6m nd m λa s hm=>h a s (List.mem_cons_of_mem _ hm)⟩
theorem w9j {P:Program} {X:Ctx} {Q:Exit->(Nat->Slot)->Own->Prop} {f:Nat->Slot} {own:Own} {ι:Type} {x y:Code} (F:ι->List (Nat×Slot)) (O:ι->List (Nat×AObj)) (I:ι->Prop) (hok:∀ i,okL (F i) (O i)=true) (hnd:∀ i,ndB (keys (F i))=true)
  (hx:AWP P X x (λe f own=>match e with|.normal=>∃ i,I i/\subW f (F i)/\subO own (O i)|e=>Q e f own) f own)
  (hy:∀ i,I i->AWP P X y Q (frs (F i)) (ows (O i))):AWP P X (.seq x y) Q f own:=by
 intro g a w hr;refine wpIn_seq (wpIn_mono (hx g a w hr) ?_);rintro e a' w' ⟨f',own',g',h1,h2⟩
 cases e with
 | normal =>
  obtain⟨i,hi,hs,ho⟩:=h2
  have h3:Rel X (upl f' (F i)) own' g' a' w':=by
   refine⟨h1.kp,h1.m0,h1.n,h1.df,λt=>?_,h1.ob,h1.sep,h1.mine,h1.fresh,h1.top⟩;rcases z4d f' (F i) t with ⟨_,q2⟩|⟨s,q1,q2⟩
   ·rw [q2];exact h1.fr t
   ·rw [q2];rcases y6l hs t s q1 with q3|⟨q3,q4⟩
    ·rw [← q3];exact h1.fr t
    ·have:=h1.fr t;rw [q3] at this;rw [q4];exact z7z _ _ _ this
  obtain⟨g'',h4⟩:=h3.less (F i) (O i) (y6m (xe (hnd i)) _ λa s h=>h) ho (hok i);exact hy i hi g'' a' w' h4
 | exit id=>exact⟨f',own',g',h1,h2⟩
 | goto l=>exact⟨f',own',g',h1,h2⟩
 | ret=>exact⟨f',own',g',h1,h2⟩
 | panic ch=>exact⟨f',own',g',h1,h2⟩
 | outgrown=>exact⟨f',own',g',h1,h2⟩
section
variable {P:Program} {f:Nat->Slot} {dst:Option Tmp} {ty:TypeId} {pos:String} {af:Array Edge} {gd:Option (Nat×Bool)}
variable {α:Type} {C:α->List V} {xs:List α}
end
end Go.Proofs.YtbpedjpoikmbjaaGreatDoor
namespace Go.Proofs.YtbpedjpoikmbjaaGreatDoor
open Go.RowKit
set_option linter.unusedVariables false
section
variable {P:Program} {f:Nat->Slot} {dst:Option Tmp} {ty:TypeId} {pos:String} {af:Array Edge} {gd:Option (Nat×Bool)}
end
def JZ {ι:Type} (F:ι->List (Nat×Slot)) (O:ι->List (Nat×AObj)) (I:ι->Prop):List (Nat×Nat)->(Nat->Slot)->Own->Prop
 | [],f,own=>∃ i,I i/\subW f (F i)/\subO own (O i)
 | (t,id)::l,f,own=>∃ e size es n,f t = .row id n/\own id=some (some (.row e size es))/\n=es.length/\JZ F O I l (updS f (some t) (.dat (vlst es))) (upl own [(id,some none)])
theorem w9i {P:Program} {X:Ctx} {Q:Exit->(Nat->Slot)->Own->Prop} {f:Nat->Slot} {own:Own} {ι:Type} {x y:Code} (F:ι->List (Nat×Slot)) (O:ι->List (Nat×AObj)) (I:ι->Prop) (hok:∀ i,okL (F i) (O i)=true) (hnd:∀ i,ndB (keys (F i))=true)
  (hx:AWP P X x (λe f own=>match e with|.normal=>∃ l,JZ F O I l f own|e=>Q e f own) f own)
  (hy:∀ i,I i->AWP P X y Q (frs (F i)) (ows (O i))):AWP P X (.seq x y) Q f own:=by
 have key:∀ (l:List (Nat×Nat)) (f:Nat->Slot) (own:Own),JZ F O I l f own->AWP P X y Q f own:=by
  intro l
  induction l with
  | nil =>
   rintro f' own' ⟨i,hi,hs,ho⟩ g' a' w' h1
   have h3:Rel X (upl f' (F i)) own' g' a' w':=by
    refine⟨h1.kp,h1.m0,h1.n,h1.df,λt=>?_,h1.ob,h1.sep,h1.mine,h1.fresh,h1.top⟩;rcases z4d f' (F i) t with ⟨_,q2⟩|⟨s,q1,q2⟩
    ·rw [q2];exact h1.fr t
    ·rw [q2];rcases y6l hs t s q1 with q3|⟨q3,q4⟩
     ·rw [← q3];exact h1.fr t
     ·have:=h1.fr t;rw [q3] at this;rw [q4];exact z7z _ _ _ this
   obtain⟨g'',h4⟩:=h3.less (F i) (O i) (y6m (xe (hnd i)) _ λa s h=>h) ho (hok i);exact hy i hi g'' a' w' h4
  | cons p l ih =>
   obtain⟨t,id⟩:=p;rintro f' own' ⟨e,size,es,n,h1,h2,h3,h4⟩;exact x7z t id h1 h2 h3 (ih _ _ h4)
 intro g a w hr;refine wpIn_seq (wpIn_mono (hx g a w hr) ?_);rintro e a' w' ⟨f',own',g',h1,h2⟩
 cases e with
 | normal=>obtain⟨l,h2⟩:=h2;exact key l f' own' h2 g' a' w' h1
 | exit id=>exact⟨f',own',g',h1,h2⟩
 | goto l=>exact⟨f',own',g',h1,h2⟩
 | ret=>exact⟨f',own',g',h1,h2⟩
 | panic ch=>exact⟨f',own',g',h1,h2⟩
 | outgrown=>exact⟨f',own',g',h1,h2⟩
end Go.Proofs.YtbpedjpoikmbjaaGreatDoor
namespace Go.Proofs.YtbpedjpoikmbjaaGreatDoor
open Go.RowKit
set_option linter.unusedVariables false
section
variable {P:Program} {X:Ctx} {Q:Exit->(Nat->Slot)->Own->Prop} {f:Nat->Slot} {own:Own} {c:Code}
theorem y1z {β:Type} (f:Nat->β) (i j:Nat) (x y:β):upl f [(i,x),(j,y)] i=x:=by simp [upl]
theorem y1y {β:Type} (f:Nat->β) {i j:Nat} (h:j≠i) (x y:β):upl f [(i,x),(j,y)] j=y:=by simp [upl,qz h]
theorem y10 {β:Type} (f:Nat->β) {i j k:Nat} (h1:k≠i) (h2:k≠j) (x y:β):upl f [(i,x),(j,y)] k=f k:=by simp [upl,qz h1,qz h2]
theorem x1f (t id id':Nat) {e:TypeId} {size n:Nat} {es:List (List V)} (hf:f t = .row id n) (ho:own id=some (some (.row e size es))) (hn:n=es.length) (ho':own id'=none)
  (h:AWP P X c Q (updS f (some t) (.row id' n)) (upl own [(id',some (some (.row e size es))),(id,some none)])):AWP P X c Q f own:=by
 intro g a w hr;subst hn;have hne:id≠id':=by rintro rfl;rw [ho] at ho';cases ho'
 obtain⟨v,xs,q1,q2,q3,q4,q5⟩:=hr.ob id _ ho
 let g':Gh:=⟨g.bl,λi k=>if i=id'/\k=es.length then some v else g.sv i k⟩
 have hsv:g'.sv id' es.length=some v:=if_pos ⟨rfl,rfl⟩
 have hle:g.le g':=⟨λ_ _ h=>h,λi k u hu=>by
  show (if i=id'/\k=es.length then _ else g.sv i k)=some u;rw [if_neg]
  ·exact hu
  ·rintro⟨rfl,rfl⟩;rw [(hr.fresh i ho').2] at hu
   cases hu⟩
 have hcase:∀ i o,upl own [(id',some (some (.row e size es))),(id,some none)] i=some (some o)->(i=id'/\o = .row e size es)∨(i≠id'/\i≠id/\own i=some (some o)):=λi o h1=>by
  by_cases hi:i=id'
  ·subst hi;rw [y1z] at h1;cases h1;exact .inl ⟨rfl,rfl⟩
  ·by_cases hj:i=id
   ·subst hj;rw [y1y own hne] at h1;cases h1
   ·rw [y10 own hi hj] at h1;exact .inr ⟨hi,hj,h1⟩
 have hobk':obk g' id' (.row e size es)=obk g id (.row e size es):=by simp only [obk,hsv,q1]
 have hblk:∀ i o b,upl own [(id',some (some (.row e size es))),(id,some none)] i=some (some o)->obk g' i o=some b->∃ i0 o0,own i0=some (some o0)/\obk g i0 o0=some b/\(i0=if i=id' then id else i):=λi o b h1 h2=>by
  rcases hcase i o h1 with ⟨rfl,rfl⟩|⟨h3,h4,h5⟩
  ·exact⟨id,_,ho,by rw [← hobk'];exact h2,by simp⟩
  ·refine⟨i,o,h5,?_,by rw [if_neg h3]⟩;rw [← (hr.ob i o h5).obk_eq hle];exact h2
 have hM:∀ b,Mof X g' (upl own [(id',some (some (.row e size es))),(id,some none)]) b->Mof X g own b:=λb hb=>by
  rcases hb with hb|⟨i,o,h1,h2⟩
  ·exact .inl hb
  ·obtain⟨i0,o0,h3,h4,_⟩:=hblk i o b h1 h2;exact .inr ⟨i0,o0,h3,h4⟩
 have he:Ext (Mof X g own) (Mof X g' (upl own [(id',some (some (.row e size es))),(id,some none)])) w w:=⟨Nat.le_refl _,λ_ _ _ _=>rfl,λb _ hb=>hM b hb⟩
 refine h g' a w ⟨hr.kp,hr.m0,hr.n,hr.df,λt'=>?_,λi o h1=>?_,λi i' o o' b h1 h2 h3 h4=>?_,λi o b h1 h2=>?_,λi h1=>?_,λi e' s' es' h1 k hk=>?_⟩
 ·by_cases ht:t'=t
  ·subst ht;have:Nat.beq t' t'=true:=by simp
   simp only [updS,this,cond_true];have hfr:=hr.fr t';rw [hf] at hfr;have hv:g.sv id es.length=some (a.tmps.getD t' undef):=hfr;show g'.sv id' es.length=_;rw [hsv,← q1,hv]
  ·simp only [updS,qz ht,cond_false];exact (hr.fr t').keep he hle
 ·rcases hcase i o h1 with ⟨rfl,rfl⟩|⟨h3,h4,h5⟩
  ·exact⟨v,xs,hsv,q2,q3,q4,λk c el u hk hc=>let ⟨x,r1,r2,r3⟩:=q5 k c el u hk hc;⟨x,r1,u.keep he r2,r3⟩⟩
  ·exact (hr.ob i o h5).keep he hle (λ_ _=>rfl)
 ·obtain⟨i0,o0,p1,p2,p3⟩:=hblk i o b h1 h3;obtain⟨i1,o1,p4,p5,p6⟩:=hblk i' o' b h2 h4;have:=hr.sep i0 i1 o0 o1 b p1 p4 p2 p5;rcases hcase i o h1 with ⟨r1,_⟩|⟨r1,r2,_⟩ <;> rcases hcase i' o' h2 with ⟨r3,_⟩|⟨r3,r4,_⟩
  ·rw [r1,r3]
  ·rw [if_pos r1] at p3;rw [if_neg r3] at p6;exact absurd (p6 ▸ this ▸ p3) r4
  ·rw [if_neg r1] at p3;rw [if_pos r3] at p6;exact absurd (p3.symm.trans (this.trans p6)) r2
  ·rw [if_neg r1] at p3;rw [if_neg r3] at p6;rw [← p3,← p6];exact this
 ·obtain⟨i0,o0,p1,p2,_⟩:=hblk i o b h1 h2;exact hr.mine i0 o0 b p1 p2
 ·have hi:i≠id':=by rintro rfl;rw [y1z] at h1;cases h1
  have hj:i≠id:=by rintro rfl;rw [y1y own hne] at h1;cases h1
  rw [y10 own hi hj] at h1;exact⟨(hr.fresh i h1).1,λk=>by show (if i=id'/\k=es.length then _ else g.sv i k)=none;rw [if_neg (λh=>hi h.1)];exact (hr.fresh i h1).2 k⟩
 ·rcases hcase i _ h1 with ⟨rfl,h3⟩|⟨h3,h4,h5⟩
  ·cases h3;show (if i=i/\k=es.length then _ else g.sv i k)=none;rw [if_neg (by omega)];exact (hr.fresh i ho').2 k
  ·show (if i=id'/\k=es.length then _ else g.sv i k)=none;rw [if_neg (λh=>h3 h.1)];exact hr.top i e' s' es' h5 k hk
end
section
variable {P:Program} {f:Nat->Slot} {dst:Option Tmp} {ty:TypeId} {pos:String} {af:Array Edge} {gd:Option (Nat×Bool)}
def cutV (m:Nat):Value->Value
 | .slice a _ cap=>.slice a m cap
 | v=>v
theorem Rel.cut {X:Ctx} {f:Nat->Slot} {own:Own} {g:Gh} {a:Act} {w:World} (hr:Rel X f own g a w) (id id':Nat) {e:TypeId} {size:Nat} {es:List (List V)} (m:Nat) (hm:m<=es.length) (ho:own id=some (some (.row e size es))) (ho':own id'=none) :
  ∃ g' v,g.sv id es.length=some v/\g'.sv id' m=some (cutV m v)/\Rel X f (upl own [(id',some (some (.row e size (es.take m)))),(id,some none)]) g' a w:=by
 have hne:id≠id':=by rintro rfl;rw [ho] at ho';cases ho'
 obtain⟨v,xs,q1,q2,q3,q4,q5⟩:=hr.ob id _ ho;have hml:(es.take m).length=m:=by rw [List.length_take];omega
 let g':Gh:=⟨g.bl,λi k=>if i=id'/\k=m then some (cutV m v) else g.sv i k⟩
 have hsv:g'.sv id' m=some (cutV m v):=if_pos ⟨rfl,rfl⟩
 have hle:g.le g':=⟨λ_ _ h=>h,λi k u hu=>by
  show (if i=id'/\k=m then _ else g.sv i k)=some u;rw [if_neg]
  ·exact hu
  ·rintro⟨rfl,rfl⟩;rw [(hr.fresh i ho').2] at hu
   cases hu⟩
 have hown:w.ownsRow 0 e size (cutV m v) m (xs.take (m*size)):=by
  refine⟨by rw [List.length_take,q2.1];exact Nat.min_eq_left (Nat.mul_le_mul_right size hm),?_⟩;rcases q2.2 with ⟨r1,r2⟩|⟨b,cap,cur,r1,r3,hb,hnc,r4,hcs,htk⟩
  ·have:m=0:=by omega
   subst this;exact .inl ⟨by rw [r1];rfl,rfl⟩
  ·refine .inr ⟨b,cap,cur,by rw [r1];rfl,r3,hb,by omega,r4,hcs,?_⟩;rw [← htk,List.take_take,Nat.min_eq_left (Nat.mul_le_mul_right size hm)]
 have hbk:(cutV m v).ownBlock=v.ownBlock:=by
  cases v with
  | slice A n c=>cases A <;> rfl
  | _=>rfl
 have hcase:∀ i o,upl own [(id',some (some (.row e size (es.take m)))),(id,some none)] i=some (some o)->(i=id'/\o = .row e size (es.take m))∨(i≠id'/\i≠id/\own i=some (some o)):=λi o h1=>by
  by_cases hi:i=id'
  ·subst hi;rw [y1z] at h1;cases h1;exact .inl ⟨rfl,rfl⟩
  ·by_cases hj:i=id
   ·subst hj;rw [y1y own hne] at h1;cases h1
   ·rw [y10 own hi hj] at h1;exact .inr ⟨hi,hj,h1⟩
 have hobk':obk g' id' (.row e size (es.take m))=obk g id (.row e size es):=by simp only [obk,hml,hsv,q1,Option.bind_some,hbk]
 have hblk:∀ i o b,upl own [(id',some (some (.row e size (es.take m)))),(id,some none)] i=some (some o)->obk g' i o=some b->∃ i0 o0,own i0=some (some o0)/\obk g i0 o0=some b/\(i0=if i=id' then id else i):=λi o b h1 h2=>by
  rcases hcase i o h1 with ⟨rfl,rfl⟩|⟨h3,h4,h5⟩
  ·exact⟨id,_,ho,by rw [← hobk'];exact h2,by simp⟩
  ·refine⟨i,o,h5,?_,by rw [if_neg h3]⟩;rw [← (hr.ob i o h5).obk_eq hle];exact h2
 have hM:∀ b,Mof X g' (upl own [(id',some (some (.row e size (es.take m)))),(id,some none)]) b->Mof X g own b:=λb hb=>by
  rcases hb with hb|⟨i,o,h1,h2⟩
  ·exact .inl hb
  ·obtain⟨i0,o0,h3,h4,_⟩:=hblk i o b h1 h2;exact .inr ⟨i0,o0,h3,h4⟩
 have he:Ext (Mof X g own) (Mof X g' (upl own [(id',some (some (.row e size (es.take m)))),(id,some none)])) w w:=⟨Nat.le_refl _,λ_ _ _ _=>rfl,λb _ hb=>hM b hb⟩
 refine⟨g',v,q1,hsv,hr.kp,hr.m0,hr.n,hr.df,λt'=>(hr.fr t').keep he hle,λi o h1=>?_,λi i' o o' b h1 h2 h3 h4=>?_,λi o b h1 h2=>?_,λi h1=>?_,λi e' s' es' h1 k hk=>?_⟩
 ·rcases hcase i o h1 with ⟨rfl,rfl⟩|⟨h3,h4,h5⟩
  ·refine⟨cutV m v,xs.take (m*size),by rw [hml];exact hsv,by rw [hml];exact hown,q3,λel hel=>q4 el (List.mem_of_mem_take hel),λk c el u hk hc=>?_⟩;rw [List.getElem?_take] at hk;split at hk
   ·rename_i hkm;obtain⟨x,r1,r2,r3⟩:=q5 k c el u hk hc;have hcl:=(List.getElem?_eq_some_iff.1 hc).1;have hel:=q4 el (List.mem_of_getElem? hk);exact⟨x,by rw [List.getElem?_take_of_lt (Yx hkm (by omega))];exact r1,u.keep he r2,r3⟩
   ·cases hk
  ·exact (hr.ob i o h5).keep he hle (λ_ _=>rfl)
 ·obtain⟨i0,o0,p1,p2,p3⟩:=hblk i o b h1 h3;obtain⟨i1,o1,p4,p5,p6⟩:=hblk i' o' b h2 h4;have:=hr.sep i0 i1 o0 o1 b p1 p4 p2 p5;rcases hcase i o h1 with ⟨r1,_⟩|⟨r1,r2,_⟩ <;> rcases hcase i' o' h2 with ⟨r3,_⟩|⟨r3,r4,_⟩
  ·rw [r1,r3]
  ·rw [if_pos r1] at p3;rw [if_neg r3] at p6;exact absurd (p6 ▸ this ▸ p3) r4
  ·rw [if_neg r1] at p3;rw [if_pos r3] at p6;exact absurd (p3.symm.trans (this.trans p6)) r2
  ·rw [if_neg r1] at p3;rw [if_neg r3] at p6;rw [← p3,← p6];exact this
 ·obtain⟨i0,o0,p1,p2,_⟩:=hblk i o b h1 h2;exact hr.mine i0 o0 b p1 p2
 ·have hi:i≠id':=by rintro rfl;rw [y1z] at h1;cases h1
  have hj:i≠id:=by rintro rfl;rw [y1y own hne] at h1;cases h1
  rw [y10 own hi hj] at h1;exact⟨(hr.fresh i h1).1,λk=>by show (if i=id'/\k=m then _ else g.sv i k)=none;rw [if_neg (λh=>hi h.1)];exact (hr.fresh i h1).2 k⟩
 ·rcases hcase i _ h1 with ⟨rfl,h3⟩|⟨h3,h4,h5⟩
  ·cases h3;rw [hml] at hk;show (if i=i/\k=m then _ else g.sv i k)=none;rw [if_neg (by omega)];exact (hr.fresh i ho').2 k
  ·show (if i=id'/\k=m then _ else g.sv i k)=none;rw [if_neg (λh=>h3 h.1)];exact hr.top i e' s' es' h5 k hk
theorem w0w (id':Nat) {t e e':TypeId} {n size:Nat} {x y:Operand} {id m N:Nat} {es:List (List V)} (ht:tyE P t=some (e,n)) (hx:evS f x = .row id N) (hN:N=es.length) (hy:evS f y = .dat (vint (m:Int))) (hm:m<=es.length) :
  Stp P ⟨dst,.slice t x none (some y) none,ty,pos,af,gd⟩ f ⟨false,[(id,some (some (.row e' size es))),(id',none)],[(id',some (some (.row e' size (es.take m)))),(id,some none)],.row id' m⟩:=by
 subst hN;intro X f' own g a w Q hr hd hxx hrd K hK;have ho:own id=some (some (.row e' size es)):=hrd (id,_) (by simp);have ho':own id'=none:=hrd (id',none) (by simp);obtain⟨i,d1,d2,d3⟩:=z4o ht;have h1:RepS g w (Mof X g own) (evS f x) (a.eval x):=by rw [← hxx x (by simp [Op.operands])];exact hr.ev x
 have h2:RepS g w (Mof X g own) (evS f y) (a.eval y):=by rw [← hxx y (by simp [Op.operands])];exact hr.ev y
 rw [hx] at h1;have h1:g.sv id es.length=some (a.eval x):=h1;have h2:=ja h2 hy;obtain⟨g',v,q1,q2,q3⟩:=hr.cut id id' m hm ho ho';rw [h1] at q1;cases q1
 have hv:∃ A cap,a.eval x = .slice A es.length cap/\es.length<=cap:=by
  obtain⟨v,xs,r1,r2,_⟩:=hr.ob id _ ho;rw [h1] at r1;cases r1;rcases r2.2 with ⟨s1,s2⟩|⟨b,cap,cur,s1,_,_,s3,_⟩
  ·exact⟨none,0,by rw [s1,s2],by omega⟩
  ·exact⟨_,cap,s1,s3⟩
 obtain⟨A,cap,hv,hc⟩:=hv
 have hrun:(execOp a.eval ⟨dst,.slice t x none (some y) none,ty,pos,af,gd⟩).run P w = .ok (.value (cutV m (a.eval x))) w:=by
  rw [hv];have hmc:m<=cap:=by omega
  simp_all [execOp,Instr.sliceAt,Instr.slice,Instr.sliceBounds,Instr.sliceBound,asIntOf,run_underlying d1,sizeOf,typeInfo,cutV]
  intro _
  cases A with
  | none=>rfl
  | some p=>simp [Addr.add]
 unfold Oper.wp;rw [hrun];exact hK g' _ w (q3.put _ (.row id' m) _ hd q2)
end
end Go.Proofs.YtbpedjpoikmbjaaGreatDoor
namespace Go.Proofs.YtbpedjpoikmbjaaGreatDoor
open Go.RowKit
set_option linter.unusedVariables false
section
variable {P:Program} {f:Nat->Slot} {dst:Option Tmp} {ty:TypeId} {pos:String} {af:Array Edge} {gd:Option (Nat×Bool)}
theorem w0l (id:Nat) {t e:TypeId} {size bytes len n:Nat} {ps:Array (Nat×Operand)} (es:List (List V)) (hE:Elem P t e size bytes) (h:z6e f size 0 ps.toList es) (hl:len=es.length) (hn:n=es.length) (h24b:Nat.ble (es.length*size) 16777216=true) :
  Stp P ⟨dst,.buildSlice t len ps,ty,pos,af,gd⟩ f ⟨false,[(id,none)],[(id,some (some (.row e size es)))],.row id n⟩:=by
 subst hn;refine Yr λX f' own g a w hr ho hh=>?_;subst hl;have h24:=Nat.le_of_ble_eq_true h24b;obtain⟨e1,i,z,e2,e3,e4,e5,e6,e7,e8,e9⟩:=x0r hE w;obtain⟨l1,l2⟩:=x5p ps.toList es 0 size h;obtain⟨cells,r1,r2,r3,r4⟩:=x65 (ev:=a.eval) ps.toList es 0 ((Array.range (es.length*size)).map (((if es.length*size=0 then #[] else z.cells):Array Value)[· % (if es.length*size=0 then #[] else z.cells:Array Value).size]!)) h (λp hp=>hh p.2 (by simp only [Op.operands];simp;exact⟨p.1,by simpa using hp⟩)) (by simp;rw [← l1];simp);have hcs:cells.size=es.length*size:=by rw [r2];simp
 let v:Value:=.slice (some ⟨w.heap.size,0,none⟩) es.length es.length
 let g':Gh:=⟨g.bl,λi k=>if i=id/\k=es.length then some v else g.sv i k⟩
 have hsv:g'.sv id es.length=some v:=if_pos ⟨rfl,rfl⟩;have hlm:es.length<=es.length*size:=Nat.le_mul_of_pos_right _ e7;refine⟨g',w.alloc (.cells cells e),.value v,v,⟨λ_ _ h=>h,λi k u hu=>?_⟩,λi hi=>⟨rfl,λk=>if_neg λh=>hi h.1⟩,?_,.inl rfl,.inl ((Kp.refl [] w).alloc _),λb hb=>?_,λe' s' es' he k hk=>?_,λM' he=>⟨⟨v,cells.toList,hsv,⟨?_,.inr ⟨w.heap.size,es.length,cells,rfl,Nat.zero_le _,heap_alloc_new w _,Nat.le_refl _,by unfold maxLen;omega,hcs,?_⟩⟩,e7,l2,λk c el u hk hc=>?_⟩,hsv⟩⟩
 ·show (if i=id/\k=es.length then some v else g.sv i k)=some u;rw [if_neg]
  ·exact hu
  ·rintro⟨rfl,rfl⟩;rw [(hr.fresh i ho).2] at hu;cases hu
 ·have hmap:(ps.map λ(i,x)=>(i,a.eval x)).toList=ps.toList.map λp=>(p.1,a.eval p.2):=by simp
  have h24':¬ es.length*size > 2 ^ 24:=by omega
  by_cases h0:es.length*size=0
  ·simp only [if_pos h0] at r1;simp only [execOp,Instr.buildSlice,Sem.run_bind,run_underlying e1,Result.andThen_ok,e9,if_neg h24',Sem.run_pure,if_pos h0,hmap,r1,newRow,run_newObj_alloc];rfl
  ·simp only [if_neg h0] at r1;simp only [execOp,Instr.buildSlice,Sem.run_bind,run_underlying e1,Result.andThen_ok,e9,if_neg h24',Sem.run_pure,if_neg h0,e8,hmap,r1,newRow,run_newObj_alloc];rfl
 ·simp only [obk,hsv,Option.bind_some] at hb;exact .inl (by cases hb;exact Nat.le_refl _)
 ·cases he;show (if id=id/\k=es.length then some v else g.sv id k)=none;rw [if_neg (by omega)];exact (hr.fresh id ho).2 k
 ·rw [Array.length_toList,hcs]
 ·rw [List.take_of_length_le (by rw [Array.length_toList,hcs];exact Nat.le_refl _)]
 ·obtain⟨x,s1,s2,s3⟩:=r4 k c el u hk hc;rw [Nat.zero_add] at s1;exact⟨x,by simpa using s1,u.keep he s2,s3⟩
theorem y2e {α:Type} {C:α->List V} (id:Nat) {t e:TypeId} {size bytes len n:Nat} {ps:Array (Nat×Operand)} (xs:List α) (hE:Elem P t e size bytes) (h:z6e f size 0 ps.toList (xs.map C)) (hl:len=xs.length) (hn:n=xs.length) (h24b:Nat.ble (xs.length*size) 16777216=true) :
  Stp P ⟨dst,.buildSlice t len ps,ty,pos,af,gd⟩ f ⟨false,[(id,none)],[(id,some (some (.row e size (xs.map C))))],.row id n⟩:=
 w0l id (xs.map C) hE h (by rw [List.length_map];exact hl) (by rw [List.length_map];exact hn) (by rw [List.length_map];exact h24b)
theorem w0a {t e e':TypeId} {n size:Nat} {x y:Operand} {id k N:Nat} {es:List (List V)} (ht:tyE P t=some (e,size)) (hx:evS f x = .row id N) (hN:N=es.length) (hy:evS f y = .dat (vint (k:Int))) (hk:k < es.length) :
  Stp P ⟨dst,.slice t x (some y) none none,ty,pos,af,gd⟩ f ⟨false,[(id,some (some (.row e' size es)))],[],.rsub id N size k⟩:=by
 subst hN;refine xa λX own g a w h ho=>?_;obtain⟨i,d1,d2,d3⟩:=z4o ht;have h1:=h x (by simp [Op.operands]);have h2:=ja (h y (by simp [Op.operands])) hy;rw [hx] at h1;have h1:g.sv id es.length=some (a.eval x):=h1;obtain⟨v,xs,r1,r2,_⟩:=ho;rw [h1] at r1;cases r1;rcases r2.2 with ⟨s1,s2⟩|⟨b,cap,cur,s1,_,_,s3,_⟩
 ·omega
 ·refine⟨.slice (some ⟨b,if cap=k then 0 else k*size,none⟩) (es.length-k) (cap-k),?_,b,cap,by rw [h1,s1],rfl⟩
  by_cases hck:cap=k
  ·omega
  ·simp_all [execOp,Instr.sliceAt,Instr.slice,Instr.sliceBounds,Instr.sliceBound,asIntOf,run_underlying d1,sizeOf,typeInfo]
   rw [if_pos (Nat.le_of_lt hk)];unfold Addr.add
   by_cases h0:k*size=0 <;> simp [h0]
theorem x37 {b:Nat} {t:TypeId}:∀ (vs:List Value) (o:Nat) (w:World) (cs:Array Value),Blk w b t cs->o+vs.length<=cs.size->∃ cs',Blk (w.setCells b o vs) b t cs'/\cs'.size=cs.size/\∀ j,cs'[j]?=if o<=j/\j < o+vs.length then vs[j-o]? else cs[j]?
 | [],o,w,cs,h,_=>⟨cs,h,rfl,λj=>by rw [if_neg (by simp)]⟩
 | v::vs,o,w,cs,h,hl=>by
  simp only [List.length_cons] at hl;obtain⟨cs',h1,h2,h3⟩:=x37 vs (o+1) (w.setCell ⟨b,o,none⟩ v) (cs.setIfInBounds o v) (h.set_ o v) (by simp;omega);refine⟨cs',h1,by simpa using h2,λj=>?_⟩;rw [h3 j]
  by_cases hj:j=o
  ·subst hj;rw [if_neg (by omega),if_pos ⟨Nat.le_refl _,by simp⟩];simp [show j < cs.size by omega]
  ·by_cases hj2:o+1<=j/\j < o+1+vs.length
   ·rw [if_pos hj2,if_pos ⟨by omega,by simp only [List.length_cons];omega⟩];have:j-o=(j-(o+1))+1:=by omega
    rw [this,List.getElem?_cons_succ]
   ·rw [if_neg hj2,if_neg (by simp only [List.length_cons];omega)];exact Array.getElem?_setIfInBounds_ne (λh=>hj h.symm)
theorem x36 {b:Nat}:∀ (vs:List Value) (o:Nat) (a w:World),Kp [b] a w->Kp [b] a (w.setCells b o vs)
 | [],o,a,w,h=>h
 | v::vs,o,a,w,h=>x36 vs (o+1) a _ (h.set_ (.inl (by simp)) v)
theorem w1t {w:World} {t e ty:TypeId} {z:Value} (ht:P.underlying t=some (.slice e)) (hv:(zeroValue e).run P w = .ok z w) (h1:z.cells.toList.all (·.oneCell')=true) (b o n c:Nat) (hn:0 < n)
  (hc:∀ j,j < (Builtin.zeroCells z.cells n).toList.length->(w.cell? ⟨b,o+j,none⟩).isSome=true) (hf:∀ j,j < (Builtin.zeroCells z.cells n).toList.length->w.frozen? ⟨b,o+j,none⟩=false) (hone:∀ v,v∈(Builtin.zeroCells z.cells n).toList->v.oneCell'=true) :
  (Builtin.clear_ #[t] ty #[.slice (some ⟨b,o,none⟩) n c]).run P w = .ok (.tuple #[]) (w.setCells b o (Builtin.zeroCells z.cells n).toList):=by
 have hst:=run_storeCells_cells (P:=P) b o (Builtin.zeroCells z.cells n).toList 0 w (by simpa using hc) (by simpa using hf) hone;simp only [Nat.add_zero] at hst;obtain⟨m,rfl⟩:∃ m,n=m+1:=⟨n-1,by omega⟩
 simp [Builtin.clear_,run_underlying ht,hv,hst]
theorem x8j (zs:Array Value) (n:Nat):(Builtin.zeroCells zs n).toList.length=n*zs.size:=by simp [Builtin.zeroCells]
theorem x1z (zs:Array Value) (n k c:Nat) (hk:k < n) (hc:c < zs.size):(Builtin.zeroCells zs n).toList[k*zs.size+c]?=zs[c]?:=by
 have hlt:k*zs.size+c < n*zs.size:=Yx hk hc;have e10:(k*zs.size+c) % zs.size=c:=by rw [Nat.mul_comm,Nat.mul_add_mod];exact Nat.mod_eq_of_lt hc
 rw [Array.getElem?_toList];simp [Builtin.zeroCells,hlt,e10,Array.getElem?_eq_getElem hc,getElem!_pos zs c hc]
theorem w0x {t e e' t':TypeId} {size:Nat} {x:Operand} {id k N:Nat} {zs:List Value} {es:List (List V)} (ht:P.underlying t=some (.slice e)) (hz:tyZ P e=some zs) (h1:zs.all (·.oneCell')=true) (hsz:zs.length=size) (hx:evS f x = .rsub id N size k) (hN:N=es.length) (hk:k < es.length) :
  Stp P ⟨dst,.call { callee:=.builtin .clear,args:=#[x],argTypes:=#[t] },ty,pos,af,gd⟩ f ⟨false,[(id,some (some (.row e' size es)))],[(id,some (some (.row e' size (es.take k++List.replicate (es.length-k) (zs.map vval)))))],.any⟩:=by
 subst hN;refine Yr λX f' own g a w hr ho hh=>?_;have h2:=hh x (by simp [Op.operands,Call.operands]);rw [hx] at h2;obtain⟨b,cap,p1,p2⟩:=h2;obtain⟨u,xs,q1,q2,q3,q4,q5⟩:=hr.ob id _ ho;rw [p1] at q1;cases q1;rcases q2.2 with ⟨e1,_⟩|⟨b',cap',cur,e1,e2,e3,e4,e5,e6,e7⟩
 ·cases e1
 ·cases e1;have hck:¬ cap=k:=by omega
  rw [if_neg hck] at p2
  obtain⟨z,hz1,hz2⟩:∃ z,(zeroValue e).run P w = .ok z w/\z.cells.toList=zs:=by
   unfold tyZ at hz
   cases hi:P.info? e with
   | none=>rw [hi] at hz;cases hz
   | some i =>
    rw [hi] at hz
    cases hzz:i.zero with
    | none=>simp [hzz] at hz
    | some z=>simp [hzz] at hz;exact⟨z,by simp [zeroValue,typeInfo,hi,hzz],hz⟩
  have hzs:z.cells.size=size:=by rw [← hsz,← hz2];simp
  let vs:=(Builtin.zeroCells z.cells (es.length-k)).toList
  have hvl:vs.length=(es.length-k)*size:=by rw [← hzs];exact x8j _ _
  have hfit:k*size+vs.length=es.length*size:=by rw [hvl,← Nat.add_mul];congr 1;omega
  have hcur:es.length*size<=cur.size:=by rw [e6];exact Nat.mul_le_mul_right _ e4
  have hvone:∀ v,v∈vs->v.oneCell'=true:=λv hv=>by
   obtain⟨j,hj,rfl⟩:=List.getElem_of_mem hv;have hj':j < (es.length-k)*size:=by rw [← hvl];exact hj
   have h5:=x1z z.cells (es.length-k) (j / size) (j % size) (Nat.div_lt_of_lt_mul (by rw [Nat.mul_comm];exact hj')) (by rw [hzs];exact Nat.mod_lt _ q3);rw [hzs,Nat.mul_comm,Nat.div_add_mod] at h5;have h6:vs[j]?=some vs[j]:=List.getElem?_eq_getElem hj;have h7:(Builtin.zeroCells z.cells (es.length-k)).toList[j]?=some vs[j]:=h6;rw [h7] at h5;have h8:vs[j]∈zs:=by rw [← hz2];exact Array.mem_toList_iff.2 (Array.mem_of_getElem? h5.symm)
   exact (List.all_eq_true.1 h1) _ h8
  have hrun:=w1t (P:=P) (w:=w) (t:=t) (e:=e) (ty:=ty) (z:=z) ht hz1 (by rw [hz2];exact h1) b (k*size) (es.length-k) (cap-k) (by omega) (λj hj=>by
   have hj:j < vs.length:=hj
   rw [cell_of_row w b _ _ _ _ e3,Array.getElem?_eq_getElem (by omega)];rfl) (λj hj=>by simp [World.frozen?,e3]) hvone
  obtain⟨cs',k1,k2,k3⟩:=x37 vs (k*size) w cur e3 (by omega);refine⟨g,w.setCells b (k*size) vs,.value (.tuple #[]),.tuple #[],Gh.le_refl g,λi hi=>⟨rfl,λ_=>rfl⟩,?_,.inl rfl,.inr ⟨_,b,ho,by simp only [obk];rw [p1];rfl,x36 vs _ w w (Kp.refl [b] w)⟩,λb' hb=>.inr ⟨_,ho,?_⟩,λe'' s' es' h k' hk'=>?_,λM' he=>⟨?_,trivial⟩⟩
  ·simp only [execOp,resolve,invoke,builtin];simp [p2,hrun,vs]
  ·simp only [obk] at hb ⊢;have:(es.take k++List.replicate (es.length-k) (zs.map vval)).length=es.length:=by simp;omega
   rw [this] at hb;exact hb
  ·cases h;have:(es.take k++List.replicate (es.length-k) (zs.map vval)).length=es.length:=by simp;omega
   rw [this] at hk';exact hr.top id _ _ _ ho k' hk'
  ·have hlen:(es.take k++List.replicate (es.length-k) (zs.map vval)).length=es.length:=by simp;omega
   refine⟨.slice (some ⟨b,0,none⟩) es.length cap,cs'.toList.take (es.length*size),by rw [hlen];exact p1,by
    rw [hlen]
    exact⟨by rw [List.length_take];exact Nat.min_eq_left (show es.length*size<=cs'.toList.length by rw [Array.length_toList (xs:=cs'),k2];exact hcur),.inr ⟨b,cap,cs',rfl,e2,k1,e4,e5,by rw [k2,e6],rfl⟩⟩,q3,λel hel=>?_,λj c el u hj hc=>?_⟩
   ·rcases List.mem_append.1 hel with h|h
    ·exact q4 el (List.mem_of_mem_take h)
    ·rw [List.eq_of_mem_replicate h];simpa using hsz
   ·have hjl:j < es.length:=by rw [← hlen];exact (List.getElem?_eq_some_iff.1 hj).1
    rcases Nat.lt_or_ge j k with hjk|hjk
    ·rw [List.getElem?_append_left (by simp;omega),List.getElem?_take_of_lt hjk] at hj;have hcl:=(List.getElem?_eq_some_iff.1 hc).1;have hel:=q4 el (List.mem_of_getElem? hj);obtain⟨y,s1,s2,s3⟩:=q5 j c el u hj hc;have hp1:j*size+c < k*size:=Yx hjk (by omega);have hp2:j*size+c < es.length*size:=Yx hjl (by omega);refine⟨y,?_,u.keep he s2,s3⟩;rw [List.getElem?_take_of_lt hp2,Array.getElem?_toList,k3,if_neg (by omega)];rw [← e7,List.getElem?_take_of_lt hp2,Array.getElem?_toList] at s1;exact s1
    ·rw [List.getElem?_append_right (by simp;omega)] at hj;have hel:=List.eq_of_mem_replicate (List.mem_of_getElem? hj);subst hel;rw [List.getElem?_map] at hc
     cases hq:zs[c]? with
     | none=>rw [hq] at hc;cases hc
     | some y =>
      rw [hq] at hc;cases hc;have hcl:c < size:=by rw [← hsz];exact (List.getElem?_eq_some_iff.1 hq).1
      have hp2:j*size+c < es.length*size:=Yx hjl hcl;refine⟨y,?_,rfl,(List.all_eq_true.1 h1) y (List.mem_of_getElem? hq)⟩;have hge:k*size<=j*size+c:=Nat.le_trans (Nat.mul_le_mul_right _ hjk) (Nat.le_add_right _ _);rw [List.getElem?_take_of_lt hp2,Array.getElem?_toList,k3,if_pos ⟨hge,by omega⟩];have hsub:j*size+c-k*size=(j-k)*z.cells.size+c:=by rw [hzs,Nat.sub_mul];have:=Nat.mul_le_mul_right size hjk;omega
      rw [hsub];have:=x1z z.cells (es.length-k) (j-k) c (by omega) (by omega);show (Builtin.zeroCells z.cells (es.length-k)).toList[_]?=_;rw [this,← Array.getElem?_toList,hz2,hq]
section
variable {α:Type} {C:α->List V} {xs:List α}
theorem x0s {m:Int} (h:0<=m/\m<=(xs.length:Int)):m.toNat=(xs.take m.toNat).length:=by rw [List.length_take];omega
theorem w8u {k:Int} (z:α) (h:0<=k/\k < (xs.length:Int)):xs.length=(xs.take k.toNat++List.replicate (xs.length-k.toNat) z).length:=by simp;omega
theorem x3e (id':Nat) {t e e':TypeId} {n size:Nat} {x y:Operand} {id N:Nat} {m:Int} (ht:tyE P t=some (e,n)) (hx:evS f x = .row id N) (hN:N=xs.length) (hy:evS f y = .dat (vint m)) (hm:0<=m/\m<=(xs.length:Int)) :
  Stp P ⟨dst,.slice t x none (some y) none,ty,pos,af,gd⟩ f ⟨false,[(id,some (some (.row e' size (xs.map C)))),(id',none)],[(id',some (some (.row e' size ((xs.take m.toNat).map C)))),(id,some none)],.row id' m.toNat⟩:=by
 have h:=w0w (P:=P) (f:=f) (dst:=dst) (ty:=ty) (pos:=pos) (af:=af) (gd:=gd) id' (e':=e') (size:=size) (m:=m.toNat) (es:=xs.map C) ht hx (by rw [List.length_map];exact hN) (by rw [hy];congr 2;omega) (by rw [List.length_map];omega);rw [← List.map_take] at h;exact h
theorem x3a {t e e':TypeId} {size:Nat} {x y:Operand} {id N:Nat} {k:Int} (ht:tyE P t=some (e,size)) (hx:evS f x = .row id N) (hN:N=xs.length) (hy:evS f y = .dat (vint k)) (hk:0<=k/\k < (xs.length:Int)) :
  Stp P ⟨dst,.slice t x (some y) none none,ty,pos,af,gd⟩ f ⟨false,[(id,some (some (.row e' size (xs.map C))))],[],.rsub id N size k.toNat⟩:=
 w0a (n:=size) (es:=xs.map C) ht hx (by rw [List.length_map];exact hN) (by rw [hy];congr 2;omega) (by rw [List.length_map];omega)
theorem x9p (z:α) {t e e':TypeId} {size:Nat} {x:Operand} {id N:Nat} {k:Int} {zs:List Value} (ht:P.underlying t=some (.slice e)) (hz:tyZ P e=some zs) (h1:zs.all (·.oneCell')=true) (hsz:zs.length=size) (hCz:zs.map vval=C z) (hx:evS f x = .rsub id N size k.toNat) (hN:N=xs.length) (hk:0<=k/\k < (xs.length:Int)) :
  Stp P ⟨dst,.call { callee:=.builtin .clear,args:=#[x],argTypes:=#[t] },ty,pos,af,gd⟩ f ⟨false,[(id,some (some (.row e' size (xs.map C))))],[(id,some (some (.row e' size ((xs.take k.toNat++List.replicate (xs.length-k.toNat) z).map C))))],.any⟩:=by
 have h:=w0x (P:=P) (f:=f) (dst:=dst) (ty:=ty) (pos:=pos) (af:=af) (gd:=gd) (t':=t) (e':=e') (es:=xs.map C) ht hz h1 hsz hx (by rw [List.length_map];exact hN) (by rw [List.length_map];omega)
 have e1:(xs.map C).take k.toNat++List.replicate ((xs.map C).length-k.toNat) (zs.map vval)=(xs.take k.toNat++List.replicate (xs.length-k.toNat) z).map C:=by
  rw [List.map_append,List.map_take,List.map_replicate,List.length_map,hCz]
 rw [e1] at h;exact h
end
end
end Go.Proofs.YtbpedjpoikmbjaaGreatDoor
namespace Go.Proofs.YtbpedjpoikmbjaaGreatDoor
open Go.RowKit
set_option linter.unusedVariables false

theorem x6y (σ:Nat->Nat):∀ (l:List (Nat×Slot)) (t:Nat),frs (l.map λp=>(p.1,rnS σ p.2)) t=rnS σ (frs l t)
 | [],t=>rfl
 | (k,s)::l,t=>by
  have ih:=x6y σ l t;unfold frs at ih ⊢;simp only [List.map_cons,upl];rw [ih];cases Nat.beq t k <;> rfl
theorem x6z {own:Own}:∀ (l:List (Nat×Slot)),l.all (λp=>okS own p.2)=true->∀ t,okS own (frs l t)=true
 | [],_,t=>rfl
 | (k,s)::l,h,t=>by
  simp only [List.all_cons,Bool.and_eq_true] at h;have ih:=x6z l h.2 t;unfold frs at ih ⊢;simp only [upl];cases Nat.beq t k
  ·exact ih
  ·exact h.1
theorem x44 (σ:Nat->Nat):∀ (l:List (Nat×AObj)) (i:Nat) (x:Option AObj),ows (l.map λp=>(σ p.1,rnO σ p.2)) i=some x->∃ p,p∈l/\σ p.1=i/\x=some (rnO σ p.2)
 | [],i,x,h=>by cases h
 | (k,o)::l,i,x,h=>by
  unfold ows at h;simp only [List.map_cons,upl] at h
  by_cases hk:i=σ k
  ·subst hk;have:Nat.beq (σ k) (σ k)=true:=by simp
   simp only [this,cond_true] at h;cases h;exact⟨(k,o),by simp,rfl,rfl⟩
  ·simp only [qz hk,cond_false] at h;obtain⟨p,h1,h2⟩:=x44 σ l i x h;exact⟨p,List.mem_cons_of_mem _ h1,h2⟩
theorem x43 (σ:Nat->Nat):∀ (l:List (Nat×AObj)) (i:Nat),ows (l.map λp=>(σ p.1,rnO σ p.2)) i=none->∀ p,p∈l->σ p.1≠i
 | [],i,h,p,hp=>by cases hp
 | (k,o)::l,i,h,p,hp=>by
  unfold ows at h;simp only [List.map_cons,upl] at h
  by_cases hk:i=σ k
  ·subst hk;have:Nat.beq (σ k) (σ k)=true:=by simp
   simp only [this,cond_true] at h;cases h
  ·simp only [qz hk,cond_false] at h;rcases List.mem_cons.1 hp with rfl|hp
   ·exact λh=>hk h.symm
   ·exact x43 σ l i h p hp
theorem x45:∀ (l:List (Nat×AObj)),(l.map (·.1)).Nodup->∀ p,p∈l->ows l p.1=some (some p.2)
 | [],_,p,hp=>by cases hp
 | (k,o)::l,hn,p,hp=>by
  unfold ows;simp only [List.map_cons,upl];rw [List.map_cons,List.nodup_cons] at hn;rcases List.mem_cons.1 hp with rfl|hp
  ·have:Nat.beq k k=true:=by simp
   simp only [this,cond_true]
  ·have hk:p.1≠k:=λh=>hn.1 (by rw [← h];exact List.mem_map.2 ⟨p,hp,rfl⟩);simp only [qz hk,cond_false];exact x45 l hn.2 p hp
theorem Rel.ren {X:Ctx} {g:Gh} {a:Act} {w:World} (σ:Nat->Nat) (lf:List (Nat×Slot)) (lo:List (Nat×AObj)) (hok:okL lf lo=true) (hnd:ndB ((lo.map (·.1)).map σ)=true) (h:Rel X (frs lf) (ows lo) g a w) :
  ∃ g',Rel X (frs (lf.map λp=>(p.1,rnS σ p.2))) (ows (lo.map λp=>(σ p.1,rnO σ p.2))) g' a w:=by
 classical
 simp only [okL,Bool.and_eq_true] at hok;have nd:=xe hnd;have ndp:(lo.map (·.1)).Pairwise λa b=>σ a≠σ b:=List.pairwise_map.1 nd;have nd0:(lo.map (·.1)).Nodup:=ndp.imp λ{a b} h e=>h (congrArg σ e)
 have hinj:∀ i j,i∈lo.map (·.1)->j∈lo.map (·.1)->σ i=σ j->i=j:=λi j hi hj hs=>by
  obtain⟨m,hm,rfl⟩:=List.getElem_of_mem hi;obtain⟨n,hn,rfl⟩:=List.getElem_of_mem hj;have hp:=List.pairwise_iff_getElem.1 ndp;rcases Nat.lt_trichotomy m n with h1|h1|h1
  ·exact absurd hs (hp m n hm hn h1)
  ·subst h1;rfl
  ·exact absurd hs.symm (hp n m hn hm h1)
 let τ:Nat->Option Nat:=λi=>(lo.map (·.1)).find? λj=>σ j == i
 have hτ:∀ j,j∈lo.map (·.1)->τ (σ j)=some j:=λj hj=>by
  cases hq:τ (σ j) with
  | none =>
   have:=List.find?_eq_none.1 hq j hj;simp at this
  | some k =>
   have h1:=List.find?_some hq;have h2:=List.mem_of_find?_eq_some hq;rw [hinj k j h2 hj (by simpa using h1)]
 let g':Gh:=⟨λi=>(τ i).bind g.bl,λi n=>(τ i).bind λj=>g.sv j n⟩
 have gb:∀ j,j∈lo.map (·.1)->g'.bl (σ j)=g.bl j:=λj hj=>by show (τ (σ j)).bind g.bl=_;rw [hτ j hj];rfl
 have gs:∀ j n,j∈lo.map (·.1)->g'.sv (σ j) n=g.sv j n:=λj n hj=>by show (τ (σ j)).bind (λj=>g.sv j n)=_;rw [hτ j hj];rfl
 have hlive:∀ j,vf (ows lo) j=true->j∈lo.map (·.1):=λj hj=>by
  obtain⟨o,ho⟩:=uh hj
  have e1:ows (lo.map λp=>((λi=>i) p.1,p.2)) j=some (some o):=by
   have:(lo.map λp=>((λi=>i) p.1,p.2))=lo:=by simp
   rw [this];exact ho
  have:∀ (l:List (Nat×AObj)),ows l j=some (some o)->j∈l.map (·.1):=by
   intro l
   induction l with
   | nil=>intro h;cases h
   | cons p l ih =>
    intro h;unfold ows at h;simp only [List.map_cons,upl] at h
    by_cases hk:j=p.1
    ·rw [hk];simp
    ·simp only [qz hk,cond_false] at h;exact List.mem_cons_of_mem _ (ih h)
  exact this lo ho
 have hobk:∀ j o,j∈lo.map (·.1)->obk g' (σ j) (rnO σ o)=obk g j o:=λj o hj=>by
  cases o with
  | box an t cs=>exact gb j hj
  | row e size es=>simp only [rnO,obk,gs j _ hj]
  | opq an R=>exact gb j hj
  | rowA v e size es=>rfl
 have hin:∀ i o2,ows (lo.map λp=>(σ p.1,rnO σ p.2)) i=some (some o2)->∃ j o,j∈lo.map (·.1)/\σ j=i/\o2=rnO σ o/\ows lo j=some (some o)/\(j,o)∈lo:=λi o2 h1=>by
  obtain⟨p,h2,h3,h4⟩:=x44 σ lo i _ h1;cases h4;exact⟨p.1,p.2,List.mem_map_of_mem h2,h3,rfl,x45 lo nd0 p h2,h2⟩
 have hM:∀ b,Mof X g' (ows (lo.map λp=>(σ p.1,rnO σ p.2))) b->Mof X g (ows lo) b:=λb hb=>by
  rcases hb with hb|⟨i,o2,h1,h2⟩
  ·exact .inl hb
  ·obtain⟨j,o,h3,rfl,rfl,h4,_⟩:=hin i o2 h1;rw [hobk j o h3] at h2;exact .inr ⟨j,o,h4,h2⟩
 have he:Ext (Mof X g (ows lo)) (Mof X g' (ows (lo.map λp=>(σ p.1,rnO σ p.2)))) w w:=⟨Nat.le_refl _,λ_ _ _ _=>rfl,λb _ hb=>hM b hb⟩
 have hS:∀ s v,okS (ows lo) s=true->RepS g w (Mof X g (ows lo)) s v->RepS g' w (Mof X g' (ows (lo.map λp=>(σ p.1,rnO σ p.2)))) (rnS σ s) v:=λs v hs hv=>by
  cases s with
  | any=>trivial
  | dat u=>exact u.keep he hv
  | ptr id off=>obtain⟨b,h1,h2⟩:=hv;exact⟨b,(gb id (hlive id hs)).trans h1,h2⟩
  | row id n=>exact (gs id n (hlive id hs)).trans hv
  | rptr id n size k c=>obtain⟨b,cap,h1,h2⟩:=hv;exact⟨b,cap,(gs id n (hlive id hs)).trans h1,h2⟩
  | mp id=>obtain⟨b,h1,h2⟩:=hv;exact⟨b,(gb id (hlive id hs)).trans h1,h2⟩
  | rsub id n size k=>obtain⟨b,cap,h1,h2⟩:=hv;exact⟨b,cap,(gs id n (hlive id hs)).trans h1,h2⟩
  | nptr id =>
   rcases hv with hv|⟨b,h1,h2⟩
   ·exact .inl hv
   ·exact .inr ⟨b,(gb id (hlive id hs)).trans h1,h2⟩
  | dr id u=>obtain⟨b,h1,h2⟩:=hv;exact⟨b,(gb id (hlive id hs)).trans h1,(u b).keep he h2⟩
  | comp tup cs =>
   refine ub.map (rnC σ) hv λc x hc hx=>?_;have hs':okC (ows lo) c=true:=(List.all_eq_true.1 hs) c hc
   cases c with
   | dat u=>exact u.keep he hx
   | ptr id off=>obtain⟨b,h1,h2⟩:=hx;exact⟨b,(gb id (hlive id hs')).trans h1,h2⟩
   | row id n=>exact (gs id n (hlive id hs')).trans hx
   | mp id=>obtain⟨b,h1,h2⟩:=hx;exact⟨b,(gb id (hlive id hs')).trans h1,h2⟩
 refine⟨g',h.kp,h.m0,h.n,h.df,λt=>?_,λi o2 h1=>?_,λi i' o2 o2' b h1 h2 h3 h4=>?_,λi o2 b h1 h2=>?_,λi h1=>?_,λi e size es h1 k hk=>?_⟩
 ·rw [x6y];exact hS _ _ (x6z lf hok.1 t) (h.fr t)
 ·obtain⟨j,o,h2,rfl,rfl,h3,h4⟩:=hin i o2 h1;have h5:=h.ob j o h3;have h6:=(List.all_eq_true.1 hok.2) (j,o) h4
  cases o with
  | box an t cs =>
   obtain⟨b,l,q1,q0,q2,q3,q4⟩:=h5;refine⟨b,l,(gb j h2).trans q1,q0,q2,by rw [List.length_map];exact q3,λk s hs=>?_⟩;rw [List.getElem?_map] at hs
   cases hq:cs[k]? with
   | none=>rw [hq] at hs;cases hs
   | some s0 =>
    rw [hq] at hs;cases hs;obtain⟨x,r1,r2,r3⟩:=q4 k s0 hq;exact⟨x,r1,hS _ _ ((List.all_eq_true.1 h6) s0 (List.mem_of_getElem? hq)) r2,r3⟩
  | row e size es =>
   obtain⟨v,xs,q1,q2,q3,q4,q5⟩:=h5;refine⟨v,xs,(gs j _ h2).trans q1,q2,q3,q4,λk c el u hk hc=>?_⟩;obtain⟨x,r1,r2,r3⟩:=q5 k c el u hk hc;exact⟨x,r1,u.keep he r2,r3⟩
  | opq an R =>
   obtain⟨b,o,q1,q0,q2,q3⟩:=h5;exact⟨b,o,(gb j h2).trans q1,q0,q2,q3⟩
  | rowA v e size es =>
   obtain⟨xs,q1,q2,q3,q4,q5⟩:=h5;refine⟨xs,(gs j _ h2).trans q1,q2,q3,q4,λk c el u hk hc=>?_⟩;obtain⟨x,r1,r2,r3⟩:=q5 k c el u hk hc;exact⟨x,r1,u.keep he r2,r3⟩
 ·obtain⟨j,o,p1,rfl,rfl,p2,_⟩:=hin i o2 h1;obtain⟨j',o',p3,rfl,rfl,p4,_⟩:=hin i' o2' h2;rw [hobk j o p1] at h3;rw [hobk j' o' p3] at h4;rw [h.sep j j' o o' b p2 p4 h3 h4]
 ·obtain⟨j,o,p1,rfl,rfl,p2,_⟩:=hin i o2 h1;rw [hobk j o p1] at h2;exact h.mine j o b p2 h2
 ·have hno:τ i=none:=by
   refine List.find?_eq_none.2 λj hj=>?_;obtain⟨p,hp,rfl⟩:=List.mem_map.1 hj;simpa using x43 σ lo i h1 p hp
  exact⟨by show (τ i).bind g.bl=none;rw [hno];rfl,λn=>by show (τ i).bind (λj=>g.sv j n)=none;rw [hno];rfl⟩
 ·obtain⟨j,o,p1,rfl,p3,p2,_⟩:=hin i _ h1
  cases o with
  | row e' size' es' =>
   cases p3;rw [gs j k p1];exact h.top j e size es p2 k hk
  | box _ _ _=>cases p3
  | opq _ _=>cases p3
  | rowA _ _ _ _=>cases p3

section
variable {P:Program} {X:Ctx} {Q:Exit->(Nat->Slot)->Own->Prop} {f:Nat->Slot} {own:Own} {c:Code}
structure Cv (Q:Exit->(Nat->Slot)->Own->Prop) (e:Exit) (f:Nat->Slot) (own:Own):Prop where
 ex:∃ f' own',(∀ (X:Ctx) (g:Gh) (a:Act) (w:World),Rel X f own g a w->∃ g',Rel X f' own' g' a w)/\Q e f' own'
theorem Zo (h:AWP P X c (Cv Q) f own):AWP P X c Q f own:=λg a w hr=>wpIn_mono (h g a w hr) λe a' w' ⟨f',own',g',h1,⟨f2,own2,h2,h3⟩⟩=>by
 obtain⟨g2,h4⟩:=h2 _ _ _ _ h1;exact⟨f2,own2,g2,h4,h3⟩
theorem Zl {e:Exit} (h:Q e f own):Cv Q e f own:=⟨⟨f,own,λ_ g _ _ hr=>⟨g,hr⟩,h⟩⟩
theorem y1g {e:Exit} (σ:Nat->Nat) (lf:List (Nat×Slot)) (lo:List (Nat×AObj)) (hf:subF f lf) (ho:subO own lo) (hok:okL lf lo=true) (hnd:ndB ((lo.map (·.1)).map σ)=true)
  (h:Q e (frs (lf.map λp=>(p.1,rnS σ p.2))) (ows (lo.map λp=>(σ p.1,rnO σ p.2)))):Cv Q e f own:=
 ⟨⟨_,_,λX g a w hr=>by
  obtain⟨g1,h1⟩:=hr.less lf lo hf ho hok
  exact h1.ren σ lf lo hok hnd,h⟩⟩
theorem x4i {g:Gh} {a:Act} {w:World} (i j id:Nat) (e:TypeId) (size:Nat) {an:Option Nat} {t:TypeId} {cs:List Slot} (hb:own i=some (some (.box an t cs))) (hj:cs[j]?=some (.dat vnil)) (ho:own id=none) (hs:Nat.blt 0 size=true)
  (hr:Rel X f own g a w) :
  ∃ g',Rel X f (upl (upl own [(id,some (some (.row e size [])))]) [(i,some (some (.box an t (cs.set j (.row id 0)))))]) g' a w:=by
 have hne:i≠id:=by rintro rfl;rw [hb] at ho;cases ho
 let g':Gh:=⟨g.bl,λi k=>if i=id/\k=0 then some (.slice none 0 0) else g.sv i k⟩
 have hsv:g'.sv id 0=some (.slice none 0 0):=if_pos ⟨rfl,rfl⟩
 have hle:g.le g':=⟨λ_ _ h=>h,λi k u hu=>by
  show (if i=id/\k=0 then _ else g.sv i k)=some u;rw [if_neg]
  ·exact hu
  ·rintro⟨rfl,rfl⟩;rw [(hr.fresh i ho).2] at hu
   cases hu⟩
 obtain⟨hr',he⟩:=Yb (id:=id) (ob' := .row e size []) (w':=w) hr hle (λi hi=>⟨rfl,λk=>if_neg λh=>hi h.1⟩) (.inl (Kp.refl _ _)) (λb hb=>by simp only [obk,List.length_nil,hsv,Option.bind_some] at hb;simp [Value.ownBlock] at hb) (λe' s' es' he k hk=>by
  cases he;show (if id=id/\k=0 then _ else g.sv id k)=none;rw [if_neg (by simp at hk;omega)]
  exact (hr.fresh id ho).2 k) (λM' he _=>⟨_,[],hsv,World.ownsRow_nil w 0 e size,by simpa [Nat.blt_eq] using hs,by simp,by simp⟩)
 have hb':upl own [(id,some (some (.row e size [])))] i=some (some (.box an t cs)):=by
  simp only [upl,qz hne,cond_false];exact hb
 obtain⟨b,l,q1,q0,q2,q3,q4⟩:=hr'.ob i _ hb'
 have hst:=Yb (id:=i) (ob' := .box an t (cs.set j (.row id 0))) (w':=w) hr' (Gh.le_refl g') (λi _=>⟨rfl,λ_=>rfl⟩) (.inl (Kp.refl _ _)) (λb' hb2=>.inr ⟨_,hb',hb2⟩) (λe size es h=>by cases h) (λM' he _=>⟨b,l,q1,q0,q2,by rw [List.length_set];exact q3,λk s0 hs=>by
  rw [List.getElem?_set] at hs;split at hs
  ·rename_i hjk;subst hjk;split at hs
   ·cases hs;obtain⟨x,r1,r2,r3⟩:=q4 j _ hj;have r2:x = .slice none 0 0:=r2;refine⟨x,r1,?_,r3⟩;rw [r2];exact hsv
   ·cases hs
  ·obtain⟨x,r1,r2,r3⟩:=q4 k s0 hs
   exact⟨x,r1,r2.keep he (Gh.le_refl g'),r3⟩⟩)
 exact⟨g',hst.1⟩
theorem y1l (i j id:Nat) (e:TypeId) (size:Nat) {an:Option Nat} {t:TypeId} {cs:List Slot} (hb:own i=some (some (.box an t cs))) (hj:cs[j]?=some (.dat vnil)) (ho:own id=none) (hs:Nat.blt 0 size=true)
  (h:AWP P X c Q f (upl (upl own [(id,some (some (.row e size [])))]) [(i,some (some (.box an t (cs.set j (.row id 0)))))])):AWP P X c Q f own:=λg a w hr=>by
 obtain⟨g',h'⟩:=x4i i j id e size hb hj ho hs hr;exact h g' a w h'
end
section
variable {P:Program} {f:Nat->Slot} {dst:Option Tmp} {ty:TypeId} {pos:String} {af:Array Edge} {gd:Option (Nat×Bool)}
theorem z0u {ops:Array Oper} {own:Own} {lg:List (List Nat×List Nat)} {K:(Nat->Slot)->Own->List (List Nat×List Nat)->Prop} (h:K f own lg):seqA P ops [] f own lg K:=h
theorem Ya {op:Op} {s:Slot} {ops:Array Oper} {os:List Oper} {own:Own} {lg:List (List Nat×List Nat)} {K:(Nat->Slot)->Own->List (List Nat×List Nat)->Prop} {id id2:Nat} {q q' r:Option (Option AObj)} (hst:Stp P ⟨dst,op,ty,pos,af,none⟩ f ⟨false,[(id,q),(id2,r)],[(id,q')],s⟩) (hq:own id=q) (hr:own id2=r)
  (h:seqA P ops os (updS f dst s) (upl own [(id,q')]) (([id,id2],[id])::lg) K):seqA P ops (⟨dst,op,ty,pos,af,none⟩::os) f own lg K:=
 ⟨_,⟨rfl,λ_=>⟨hst,y8i hq hr⟩,λh=>(by cases h),λk hk=>(by simp [keys] at hk ⊢;omega)⟩,h⟩
theorem Zw {t:TypeId} {b0:Bool} {p x:Operand} {id off r n:Nat} {an:Option Nat} {bt e:TypeId} {size:Nat} {es:List (List V)} {cs:List Slot} (ht:tyS P t=some (b0,1)) (hp:evS f p = .ptr id off) (hx:evS f x = .row r n) (hn:n=es.length) (ho':Nat.blt off cs.length=true) :
  Stp P ⟨dst,.store t p x,ty,pos,af,gd⟩ f ⟨false,[(id,some (some (.box an bt cs))),(r,some (some (.row e size es)))],[(id,some (some (.box an bt (cs.set off (.row r n)))))],.any⟩:=by
 have ho1:off < cs.length:=by simpa [Nat.blt_eq] using ho'
 intro X f' own g a w Q hr hd hxo hrd K hK;have ho:own id=some (some (.box an bt cs)):=hrd (id,some (some (.box an bt cs))) (by simp);have hor:own r=some (some (.row e size es)):=hrd (r,some (some (.row e size es))) (by simp);obtain⟨b,l,q1,q0,q2,q3,q4⟩:=hr.ob id _ ho;obtain⟨v,xs,p1,p2,_⟩:=hr.ob r _ hor;have h1:=hr.ev p;rw [hxo p (by simp [Op.operands]),hp] at h1;obtain⟨b',h2,h3⟩:=h1;rw [q1] at h2;cases h2;have h4:=hr.ev x;rw [hxo x (by simp [Op.operands]),hx] at h4;have h4:g.sv r n=some (a.eval x):=h4;rw [hn,p1] at h4;have h4:v=a.eval x:=Option.some.inj h4
 have hone:(a.eval x).oneCell'=true:=by
  rw [← h4];rcases p2.2 with ⟨rfl,_⟩|⟨_,_,_,rfl,_⟩ <;> rfl
 have hrun:=y22 (P:=P) ht w b off l bt (a.eval x) q2 (by omega) hone;unfold Oper.wp
 have hex:(execOp a.eval ⟨dst,.store t p x,ty,pos,af,gd⟩).run P w = .ok .skip (w.setCell ⟨b,off,none⟩ (a.eval x)):=by
  simp only [execOp,h3,Sem.run_bind,hrun,Result.andThen_ok,Sem.run_pure]
 rw [hex]
 have hst:=Yb (id:=id) (ob' := .box an bt (cs.set off (.row r n))) (w':=w.setCell ⟨b,off,none⟩ (a.eval x)) hr (Gh.le_refl g) (λi _=>⟨rfl,λ_=>rfl⟩) (.inr ⟨_,b,ho,q1,(Kp.refl _ _).set_ (.inl (by simp)) _⟩) (λb' hb'=>.inr ⟨_,ho,hb'⟩) (λe size es h=>by cases h) (λM' he _=>⟨b,l.set off (a.eval x),q1,q0,by
  have:=Blk.set_ (show Blk w b bt _ from q2) off (a.eval x)
  simpa [Blk] using this,by rw [List.length_set,List.length_set];exact q3,λj s hs=>by
  rw [List.getElem?_set] at hs;split at hs
  ·rename_i hj;subst hj;cases hs;refine⟨a.eval x,by rw [List.getElem?_set];simp;omega,?_,hone⟩;show g.sv r n=_;rw [hn,p1,h4]
  ·rename_i hj;obtain⟨y,r1,r2,r3⟩:=q4 j s hs
   exact⟨y,by rw [List.getElem?_set,if_neg hj];exact r1,r2.keep he (Gh.le_refl g),r3⟩⟩)
 exact hK g undef _ (hst.1.put dst .any undef hd trivial)
end
end Go.Proofs.YtbpedjpoikmbjaaGreatDoor
namespace Go.Proofs.YtbpedjpoikmbjaaGreatDoor
open Go.RowKit
abbrev cmpL:=Lib.compareBytes
theorem x0z:∀ a b:List UInt8,cmpL a b=-1∨cmpL a b=0∨cmpL a b=1
 | [],[]=>.inr (.inl rfl)
 | [],_::_=>.inl rfl
 | _::_,[]=>.inr (.inr rfl)
 | a::as1,b::bs=>by
  simp only [cmpL,Lib.compareBytes];split
  ·exact .inl rfl
  ·split
   ·exact .inr (.inr rfl)
   ·exact x0z as1 bs
theorem y5p:∀ a b:List UInt8,cmpL b a=- cmpL a b
 | [],[]=>rfl
 | [],_::_=>rfl
 | _::_,[]=>rfl
 | a::as1,b::bs=>by
  have ih:=y5p as1 bs;simp only [cmpL,Lib.compareBytes] at ih ⊢
  by_cases h1:a < b
  ·have h2:¬ b < a:=by rw [UInt8.lt_iff_toNat_lt] at *;omega
   simp [h1,h2]
  ·by_cases h2:b < a
   ·simp [h1,h2]
   ·simp [h1,h2];exact ih
theorem ka:∀ a b:List UInt8,cmpL a b=0↔a=b
 | [],[]=>by simp [cmpL,Lib.compareBytes]
 | [],_::_=>by simp [cmpL,Lib.compareBytes]
 | _::_,[]=>by simp [cmpL,Lib.compareBytes]
 | a::as1,b::bs=>by
  have ih:=ka as1 bs;simp only [cmpL,Lib.compareBytes] at ih ⊢
  by_cases h1:a < b
  ·have h2:a≠b:=by rintro rfl;rw [UInt8.lt_iff_toNat_lt] at h1;omega
   simp [h1,h2]
  ·by_cases h2:b < a
   ·have h3:a≠b:=by rintro rfl;rw [UInt8.lt_iff_toNat_lt] at h2;omega
    simp [h1,h2,h3]
   ·have h3:a=b:=by
     rw [UInt8.lt_iff_toNat_lt] at h1 h2;exact UInt8.toNat_inj.1 (by omega)
    subst h3;rw [if_neg h1,if_neg h1,ih];simp
theorem z1n:∀ a b c:List UInt8,cmpL a b < 0->cmpL b c < 0->cmpL a c < 0
 | _,[],[],_,h=>by simp [cmpL,Lib.compareBytes] at h
 | [],[],_::_,h,_=>by simp [cmpL,Lib.compareBytes] at h
 | _::_,[],_,h,_=>by simp [cmpL,Lib.compareBytes] at h
 | [],_::_,[],_,h=>by simp [cmpL,Lib.compareBytes] at h
 | [],_::_,_::_,_,_=>by simp [cmpL,Lib.compareBytes]
 | _::_,_::_,[],_,h=>by simp [cmpL,Lib.compareBytes] at h
 | a::as1,b::bs,c::cs,h1,h2=>by
  have ih:=z1n as1 bs cs;simp only [cmpL,Lib.compareBytes] at ih h1 h2 ⊢
  by_cases ab:a < b
  ·by_cases bc:b < c
   ·have ac:a < c:=by rw [UInt8.lt_iff_toNat_lt] at *;omega
    simp [ac]
   ·by_cases cb:c < b
    ·simp [bc,cb] at h2
    ·have ac:a < c:=by rw [UInt8.lt_iff_toNat_lt] at *;omega
     simp [ac]
  ·by_cases ba:b < a
   ·simp [ab,ba] at h1
   ·have e:a=b:=by
     rw [UInt8.lt_iff_toNat_lt] at ab ba;exact UInt8.toNat_inj.1 (by omega)
    subst e;simp [ab] at h1
    by_cases bc:a < c
    ·simp [bc]
    ·by_cases cb:c < a
     ·simp [bc,cb] at h2
     ·simp [bc,cb] at h2 ⊢;exact ih h1 h2
theorem y86:∀ a b:List UInt8,Op.bytesLess a b=decide (cmpL a b < 0)
 | [],[]=>by simp [Op.bytesLess,cmpL,Lib.compareBytes]
 | [],_::_=>by simp [Op.bytesLess,cmpL,Lib.compareBytes]
 | _::_,[]=>by simp [Op.bytesLess,cmpL,Lib.compareBytes]
 | a::as1,b::bs=>by
  have ih:=y86 as1 bs;simp only [Op.bytesLess,cmpL,Lib.compareBytes] at ih ⊢
  by_cases h1:a < b
  ·simp [h1]
  ·by_cases h2:b < a
   ·have:a≠b:=by rintro rfl;exact h1 h2
    simp [h1,h2,this]
   ·have h3:a=b:=by
     rw [UInt8.lt_iff_toNat_lt] at h1 h2;exact UInt8.toNat_inj.1 (by omega)
    subst h3;simp [ih]
end Go.Proofs.YtbpedjpoikmbjaaGreatDoor
namespace Go.Proofs.YtbpedjpoikmbjaaGreatDoor
def xf (a b:Bs):Option Int:=some (Lib.compareBytes a b)
def y8w (l:Bs) (c:Int):Option Int:=some (Lib.indexByte l c.toNat.toUInt8)
def Qi (s sep:Bs):List Bs:=(Lib.splitB ⟨sep.toArray⟩ 0 (Lib.countB ⟨s.toArray⟩ ⟨sep.toArray⟩) ⟨s.toArray⟩).map λb=>b.data.toList
def z02 (s sep:Bs):Option (List Bs):=if s.length<=1000000000/\1<=sep.length then some (Qi s sep) else none
theorem w06 {s sep:Bs} {r:List Bs} (h:z02 s sep=some r):s.length<=1000000000/\1<=sep.length/\r=Qi s sep:=by
 unfold z02 at h;split at h
 ·rename_i h1;cases h;exact⟨h1.1,h1.2,rfl⟩
 ·cases h
noncomputable def Wn (l:List Bs):Option (List Bs):=if l.length<=1000000000 then some (l.mergeSort λx y=>decide (x<=y)) else none
theorem x3z {l r:List Bs} (h:Wn l=some r):l.length<=1000000000/\r=l.mergeSort λx y=>decide (x<=y):=by
 unfold Wn at h;split at h
 ·rename_i h1;cases h;exact⟨h1,rfl⟩
 ·cases h
theorem y6y {l r:List Bs} (h:Wn l=some r):r.length=l.length:=by rw [(x3z h).2];simp
def z9m (s:Bs) (n:Int):Option Bs:=if 0<=n/\n<=1000000/\s.length<=1000000 then some (Lib.repeatL s n.toNat) else none
theorem w11 {s r:Bs} {n:Int} (h:z9m s n=some r):0<=n/\n<=1000000/\s.length<=1000000/\Lib.repeatL s n.toNat=r:=by
 unfold z9m at h;split at h
 ·rename_i h1;cases h;exact⟨h1.1,h1.2.1,h1.2.2,rfl⟩
 ·cases h
abbrev shr_ (k:IntKind) (m n:Int):Int:=m.fdiv (2 ^ (min n.toNat k.bits))
end Go.Proofs.YtbpedjpoikmbjaaGreatDoor
namespace Go.Proofs.YtbpedjpoikmbjaaGreatDoor
open Go.RowKit
set_option linter.unusedVariables false

section
variable {P:Program} {f:Nat->Slot} {dst:Option Tmp} {ty:TypeId} {pos:String} {af:Array Edge} {gd:Option (Nat×Bool)}
end

section
variable {P:Program} {X:Ctx} {Q:Exit->(Nat->Slot)->Own->Prop} {own:Own} {f:Nat->Slot} {c:Code}
end
section
variable {P:Program} {f:Nat->Slot} {dst:Option Tmp} {ty t':TypeId} {pos:String} {af:Array Edge} {gd:Option (Nat×Bool)}
variable {α:Type} {C:α->List V} {xs ys:List α}
end

theorem w70 {P:Program} {fn:Nat} {args:List V} {e:TypeId} {size:Nat} {es:List (List V)} (hok:uv P fn=true) (hs:0 < size) (hel:∀ el,el∈es->el.length=size)
  (h:∀ (M:Blks) (w:World) (vs:List Value),Mlt w M->Ts w M args vs->Calls P fn vs.toArray w λr w'=>∃ v xs,r = .returned v/\Kp [] w w'/\w'.ownsRow w.heap.size e size v es.length xs /\
   ∀ M',Ext M M' w w'->∀ (k c:Nat) (el:List V) (u:V),es[k]?=some el->el[c]?=some u->∃ x,xs[k*size+c]?=some x/\u.p w' M' x/\x.oneCell'=true) :
  FnG P fn (args.map .dat) [] (.row 900 es.length) [(900,.row e size es)]:=by
 refine⟨hok,λX A g w vs hw hm hvl hvs=>?_⟩
 have hTs:Ts w (Mof X g (ows (anL A []))) args vs.toList:=by
  refine⟨by simpa using hvl,λj u hj=>?_⟩;obtain⟨v,h1,h2⟩:=hvs j (.dat u) (by rw [List.getElem?_map,hj];rfl);exact⟨v,by simpa using h1,h2⟩
 have hM:Mlt w (Mof X g (ows (anL A []))):=by
  obtain⟨c1,c2,c3⟩:=hm.m0;rw [hw] at c1 c2;refine⟨?_,c2,?_⟩
  ·rintro b (hb|⟨id,o,h1,h2⟩)
   ·exact (c1 b hb).1
   ·cases h1
  ·rintro b hb (h|⟨id,o,h1,h2⟩)
   ·exact (c3 b hb).1 h
   ·cases h1
 have hc:=h _ w vs.toList hM hTs;simp only [Array.toArray_toList] at hc;refine hc.mono ?_;rintro r w' ⟨v,xs,rfl,h1,h2,h3⟩
 let g':Gh:=⟨g.bl,λi k=>if i=900/\k=es.length then some v else g.sv i k⟩
 have hsv:g'.sv 900 es.length=some v:=if_pos ⟨rfl,rfl⟩
 have hown:∀ id o,ows (anL A [(900,AObj.row e size es)]) id=some (some o)->id=900/\o = .row e size es:=by
  intro id o ho;have:=(ug (by simp [anL]) (id:=id) (o:=o)).1 ho;simpa [anL,anO] using this
 have hb:∀ b,v.ownBlock=some b->w.heap.size<=b:=by
  intro b hb;rcases h2.2 with ⟨e1,_⟩|⟨b',cap,cur,e1,e2,_⟩
  ·rw [e1] at hb;cases hb
  ·rw [e1] at hb;cases hb;exact e2
 have hE:Ext (Mof X g (ows (anL A []))) (Mof X g' (ows (anL A [(900,AObj.row e size es)]))) w w':=by
  refine⟨h1.size,λb hb _ _=>h1.block b hb (by simp),λb hlt hb'=>?_⟩;rcases hb' with hb'|⟨id,o,q1,q2⟩
  ·exact .inl hb'
  ·obtain⟨rfl,rfl⟩:=hown id o q1;simp only [obk,hsv,Option.bind_some] at q2;have:=hb b q2;omega
 refine⟨v,g',rfl,⟨?_,hm.m0,?_,?_,?_,?_,?_⟩,hsv⟩
 ·have hk:=hm.kp;exact⟨h1.os.trans hk.os,h1.tape.trans hk.tape,h1.output.trans hk.output,Nat.le_trans hk.size h1.size,λk hk1 hk2=>(h1.block k (Nat.lt_of_lt_of_le hk1 hk.size) (by simp)).trans (hk.block k hk1 hk2)⟩
 ·intro id o ho;obtain⟨rfl,rfl⟩:=hown id o ho;refine⟨v,xs,hsv,⟨h2.1,?_⟩,hs,hel,h3 _ hE⟩;rcases h2.2 with q|⟨b',cap,cur,q1,q2,q3⟩
  ·exact .inl q
  ·exact .inr ⟨b',cap,cur,q1,Nat.zero_le _,q3⟩
 ·intro id id' o o' b q1 q2 _ _;rw [(hown id o q1).1,(hown id' o' q2).1]
 ·intro id o b q1 q2;obtain⟨rfl,rfl⟩:=hown id o q1;simp only [obk,hsv,Option.bind_some] at q2;rw [hw];exact .inr (hb b q2)
 ·intro id hid;have h9:id≠900:=λh=>by subst h;cases hid
  have:=hm.fresh id rfl
  exact⟨this.1,λn=>by
   show (if id=900/\n=es.length then some v else g.sv id n)=none
   rw [if_neg (λh=>h9 h.1)];exact this.2 n⟩
 ·intro id e' s' es' q1 k hk;obtain⟨rfl,q2⟩:=hown id _ q1;cases q2;show (if 900=900/\k=es.length then some v else g.sv 900 k)=none;rw [if_neg (by omega)];exact (hm.fresh 900 rfl).2 k
theorem w7x {P:Program} {fn:Nat} {args:List V} {e:TypeId} {size:Nat} {es:List (List V)} (h:FnG P fn (args.map .dat) [] (.row 900 es.length) [(900,.row e size es)]):Fn P fn args (yb [vlst es]):=by
 refine⟨h.1,λM w vs hM hvs=>?_⟩
 have hm:Mem ⟨M,w,[],0,none,[]⟩ (ows (anL ⟨λ_=>0,λ_=>undef⟩ [])) ⟨λ_=>none,λ_ _=>none⟩ w:=
  ⟨Kp.refl _ _,⟨λb hb=>⟨hM.1 b hb,by simp⟩,hM.2.1,λb hb=>⟨hM.2.2 b hb,by simp⟩⟩,λid o h=>(by cases h),λid id' o o' b h=>(by cases h),λid o b h=>(by cases h),λid _=>⟨rfl,λ_=>rfl⟩,λid e size es h=>(by cases h)⟩
 have hMe:Mof ⟨M,w,[],0,none,[]⟩ ⟨λ_=>none,λ_ _=>none⟩ (ows (anL ⟨λ_=>0,λ_=>undef⟩ []))=M:=by
  funext b;apply propext;constructor
  ·rintro (h|⟨id,o,h1,_⟩)
   ·exact h
   ·cases h1
  ·exact λh=>.inl h
 refine (h.2 ⟨M,w,[],0,none,[]⟩ ⟨λ_=>0,λ_=>undef⟩ ⟨λ_=>none,λ_ _=>none⟩ w vs rfl hm (by simpa using hvs.1) (λj s hs=>?_)).mono ?_
 ·rw [List.getElem?_map] at hs
  cases hq:args[j]? with
  | none=>rw [hq] at hs;cases hs
  | some u =>
   rw [hq] at hs;cases hs;obtain⟨x,h1,h2⟩:=hvs.2 j u hq;exact⟨x,by simpa using h1,by rw [hMe];exact h2⟩
 ·rintro r w' ⟨v,g',rfl,hm',hv⟩;refine⟨v,rfl,?_,hm'.kp⟩;have hv:g'.sv 900 es.length=some v:=hv;obtain⟨v',xs,q1,q2,q3,q4,q5⟩:=hm'.ob 900 _ rfl;rw [hv] at q1;cases q1;rcases q2.2 with ⟨e1,e2⟩|⟨b,cap,cur,e1,_,e3,e4,e5,e6,e7⟩
  ·exact⟨none,0,by rw [e1,e2],by omega,λhne=>absurd (List.eq_nil_of_length_eq_zero e2) hne⟩
  ·have hbM:¬ M b:=λhb=>by
    have h1:=hm'.mine 900 _ b rfl (show (g'.sv 900 es.length).bind Value.ownBlock=some b by rw [hv,e1];rfl);rcases h1 with h1|h1
    ·simp at h1
    ·exact absurd (hM.1 b hb) (by simpa using h1)
   refine⟨some ⟨b,0,none⟩,cap,e1,e4,λ_=>⟨b,0,size,rfl,hbM,cur,e,(0,0),e3,q4,λk c el u hk hc=>?_⟩⟩;obtain⟨x,s1,s2,s3⟩:=q5 k c el u hk hc;refine⟨x,?_,u.keep (M:=Mof ⟨M,w,[],0,none,[]⟩ g' _) ⟨Nat.le_refl _,λ_ _ _ _=>rfl,λb _ hb=>.inl hb⟩ s2,s3⟩;have hkl:=(List.getElem?_eq_some_iff.1 hk).1;have hcl:=(List.getElem?_eq_some_iff.1 hc).1;have hel:=q4 el (List.mem_of_getElem? hk);rw [← e7,List.getElem?_take_of_lt (Yx hkl (by omega))] at s1;simpa using s1

theorem w7y {α:Type} [Inhabited α] {P:Program} {fn:Nat} {e:TypeId} (enc:α->Value) (ys xs:List α) (hlen:ys.length=xs.length) (hok:uv P fn=true) (hone:∀ x,(enc x).oneCell'=true)
  (h:∀ (blk cap:Nat) (w:World),Sort.Holds enc w blk 0 xs.toArray->blk < w.heap.size->Calls P fn #[.slice (some ⟨blk,0,none⟩) xs.length cap] w λr w'=>r = .returned (.tuple #[])/\∃ n os,w'=Sort.grow (Sort.putRow enc (Sort.ahead w n) blk 0 ys.toArray) os)
  (hnil:xs=[]->∀ w,Calls P fn #[.slice none 0 0] w λr w'=>r = .returned (.tuple #[])/\w'=w) :
  FnG P fn [.row 0 xs.length] [(0,.rowA undef e 1 (xs.map λx=>[vval (enc x)]))] (.dat (yb [])) [(0,.rowA undef e 1 (ys.map λx=>[vval (enc x)]))]:=by
 refine⟨hok,λX A g w vs hw hm hvl hvs=>?_⟩;obtain⟨v,hv1,hv2⟩:=hvs 0 _ rfl;have hv2:g.sv 0 xs.length=some v:=hv2
 have hvs':vs = #[v]:=by
  apply Array.ext_getElem?;intro i;rcases i with _|i
  ·rw [hv1];rfl
  ·rw [Array.getElem?_eq_none (by simp at hvl;omega),Array.getElem?_eq_none (by simp)]
 subst hvs';obtain⟨cs,o1,o2,o3,o4,o5⟩:=hm.ob 0 _ rfl;simp only [List.length_map] at o1 o2;have hvA:A.vl 0=v:=by rw [hv2] at o1;cases o1;rfl
 have hcs:cs=xs.map enc:=by
  apply List.ext_getElem?;intro k;rcases Nat.lt_or_ge k xs.length with hk|hk
  ·obtain⟨x,q1,q2,q3⟩:=o5 k 0 [vval (enc xs[k])] (vval (enc xs[k])) (by rw [List.getElem?_map,List.getElem?_eq_getElem hk];rfl) rfl;have q2:x=enc xs[k]:=q2;rw [List.getElem?_map,List.getElem?_eq_getElem hk];simpa [q2] using q1
  ·rw [List.getElem?_eq_none (by rw [o2.1];omega),List.getElem?_eq_none (by simpa using hk)]
 rcases o2.2 with ⟨e1,e2⟩|⟨b,cap,cur,e1,_,e3,e4,e5,e6,e7⟩
 ·have hx0:xs=[]:=List.eq_nil_of_length_eq_zero e2;have hy0:ys=[]:=List.eq_nil_of_length_eq_zero (by rw [hlen,e2]);subst hx0 hy0;rw [← hvA,e1];refine (hnil rfl w).mono ?_;rintro r w' ⟨rfl,rfl⟩;exact⟨.tuple #[],g,rfl,hm,[],rfl,rfl,λj u hj=>by simp at hj⟩
 ·have hbl:b < w.heap.size:=vh e3;have hob:obk g 0 (.rowA (A.vl 0) e 1 (xs.map λx=>[vval (enc x)]))=some b:=by simp only [obk,e1];rfl
  have hbS:b∈X.S0:=by
   rcases hm.mine 0 _ b rfl hob with h|h
   ·exact h
   ·rw [hw] at h;omega
  rw [← hvA,e1];have hxs:(cur.toList.take (xs.length*1))=xs.map enc:=by rw [e7,hcs]
  have hcell:∀ j,j < xs.length->cur[j]?=some (enc xs[j]!):=λj hj=>by
   have h1:=congrArg (λl=>l[j]?) hxs;simp only [Nat.mul_one] at h1;rw [List.getElem?_take_of_lt hj,List.getElem?_map,List.getElem?_eq_getElem hj] at h1;rw [getElem!_pos xs j hj];simpa using h1
  refine (h b cap w (λj hj=>⟨?_,?_⟩) hbl).mono ?_
  ·rw [cell_of_row w b _ _ _ _ e3];have hj':j < xs.length:=by simpa using hj
   rw [Nat.zero_add,hcell j hj'];simp
  ·simp [World.frozen?,e3]
  ·rintro r w' ⟨rfl,n,os,rfl⟩
   have hheap:∀ k,k < w.heap.size->(Sort.grow (Sort.putRow enc (Sort.ahead w n) b 0 ys.toArray) os).heap[k]?=if b=k then (w.heap[k]?).map (Sort.onCells (Sort.putCells enc 0 ys.toArray)) else w.heap[k]?:=λk hk=>by
    rw [Sort.heap_grow_old _ _ (by simp [Sort.putRow,Sort.mapBlock,Sort.ahead];exact hk)];simp [Sort.putRow,Sort.mapBlock,Sort.ahead,Array.getElem?_modify]
   have hsz:w.heap.size<=(Sort.grow (Sort.putRow enc (Sort.ahead w n) b 0 ys.toArray) os).heap.size:=by simp [Sort.grow,Sort.putRow,Sort.mapBlock,Sort.ahead]
   have hb':(Sort.grow (Sort.putRow enc (Sort.ahead w n) b 0 ys.toArray) os).heap[b]?=some (.cells (Sort.putCells enc 0 ys.toArray cur) e (0,0)):=by
    rw [hheap b hbl,if_pos rfl,e3];rfl
   refine⟨.tuple #[],g,rfl,⟨⟨?_,?_,?_,?_,?_⟩,hm.m0,?_,?_,?_,?_,?_⟩,[],rfl,rfl,λj u hj=>by simp at hj⟩
   ·rw [hw];rfl
   ·rw [hw];rfl
   ·rw [hw];rfl
   ·rw [hw];exact hsz
   ·intro k hk hn;rw [hw] at hk ⊢;rw [hheap k hk,if_neg (by rintro rfl;exact hn hbS)]
   ·intro id o ho;rcases id with _|id
    ·cases ho;refine⟨ys.map enc,?_,?_,o3,?_,?_⟩
     ·simp only [List.length_map,hlen];exact o1
     ·refine⟨by simp,.inr ⟨b,cap,Sort.putCells enc 0 ys.toArray cur,by simp only [List.length_map,hlen];exact e1,Nat.zero_le _,hb',by simp only [List.length_map,hlen];exact e4,e5,by simp [Sort.putCells,e6],?_⟩⟩;apply List.ext_getElem?;intro k;simp only [List.length_map,Nat.mul_one];rcases Nat.lt_or_ge k ys.length with hk|hk
      ·have hkc:k < cur.size:=by rw [e6];omega
       rw [List.getElem?_take_of_lt hk,List.getElem?_map,List.getElem?_eq_getElem hk];simp [Sort.putCells,hk,hkc]
      ·rw [List.getElem?_eq_none (by simp;omega),List.getElem?_eq_none (by simpa using hk)]
     ·intro el hel;obtain⟨y,_,rfl⟩:=List.mem_map.1 hel;rfl
     ·intro k c el u hk hc;rw [List.getElem?_map] at hk
      cases hq:ys[k]? with
      | none=>rw [hq] at hk;cases hk
      | some y =>
       rw [hq] at hk;cases hk;rcases c with _|c
       ·cases hc;exact⟨enc y,by rw [Nat.mul_one,Nat.add_zero,List.getElem?_map,hq];rfl,rfl,hone y⟩
       ·simp at hc
    ·cases ho
   ·intro id id' o o' b' h1 h2 h3 h4;rcases id with _|id
    ·rcases id' with _|id'
     ·rfl
     ·cases h2
    ·cases h1
   ·intro id o b' h1 h2;rcases id with _|id
    ·cases h1;exact hm.mine 0 _ b' rfl h2
    ·cases h1
   ·intro id h1;rcases id with _|id
    ·cases h1
    ·exact hm.fresh (id+1) rfl
   ·intro id e' s' es' h1;rcases id with _|id
    ·cases h1
    ·cases h1
end Go.Proofs.YtbpedjpoikmbjaaGreatDoor
namespace Go.Proofs.YtbpedjpoikmbjaaGreatDoor
open Go.RowKit
set_option linter.unusedVariables false
end Go.Proofs.YtbpedjpoikmbjaaGreatDoor
