/- The abstract machine: operations that run or not by a truth value that is not known, without two ways; the call of a function with own objects, as a step. The abstract machine: elements of a row that came by pointer, typed; pointers as data. The abstract machine: bytes as a string. The abstract machine: rows under another name, heads of rows, rows that are lent. The abstract machine: tails of rows, and their clearing. The abstract machine: where ways meet own objects may get other names; rows within boxes; a cell that holds nil or its box's own address. The order of strings: compareBytes is a total order, and Go's own less agrees with it. Plain lemmas. Models of the library's functions that have contracts of the kit's shelf. No program. The abstract machine: appends of what may be empty; new empty slices; slices and nil; rows that the library's functions turn in place. No program. The library's slices.Grow of nil: a new row. No program. -/
import Derived.Test.YtgdijjmdfcgifaaGreatMb
import Derived.Laws.BytesArg
import Derived.Lib.SliceRun
import Derived.Test.YtgdijjmdfcgifaaGreatMa
import Derived.Lib.Bytealg
import Derived.Lib.IndexAny
import Derived.Lib.Repeat
import Derived.Lib.Strings
import Derived.Lib.SplitLaws
import Derived.Lib.SlicesCompact
import Derived.Lib.TrailingZeros
import Derived.Lib.Join
import Derived.Lib.Case
import Derived.Lib.ItoaNum
import Derived.Lib.IndexMore
import Derived.Lib.Replace
import Derived.Lib.Index
import Derived.Lib.Fold
import Derived.Lib.SlTrimSet
import Derived.Lib.LazyBuf
import Derived.Sort.Grow
import Derived.Shelf.Spec.SlicesGrow
namespace Go.Proofs.YtgdijjmdfcgifaaGreat
open Go.RowKit
set_option linter.unusedVariables false

def cnS (c:Bool) (s:Slot):Slot:=match c with
 | true=>s
 | false => .dat (vval undef)
theorem cnd {c:Bool} {s:Slot} (h:c=true):cnS c s=s:=by rw [h]; rfl
theorem bTT {b:Bool} (h:b=true):(b != true)=false:=by rw [h]; rfl
theorem bFF {b:Bool} (h:b=false):(b != false)=false:=by rw [h]; rfl
theorem un1 {b:Bool} (h:(b != true)=false):b=true:=by simpa using h
theorem un2 {b:Bool} (h:(b != true)=true):b=false:=by simpa using h
theorem un3 {b:Bool} (h:(b != false)=false):b=false:=by simpa using h
theorem un4 {b:Bool} (h:(b != false)=true):b=true:=by simpa using h
theorem u1 {α:Type} {b:Bool} {x y r:Option α} {G:Prop} (h:(b != true)=false) (H:(if b=true then x else y)=r) (k:b=true→x=r→G):G:=k (un1 h) (ift (un1 h) H)
theorem u2 {α:Type} {b:Bool} {x y r:Option α} {G:Prop} (h:(b != true)=true) (H:(if b=true then x else y)=r) (k:b=false→y=r→G):G:=k (un2 h) (iff_ (un2 h) H)
theorem u3 {α:Type} {b:Bool} {x y r:Option α} {G:Prop} (h:(b != false)=false) (H:(if b=true then x else y)=r) (k:b=false→y=r→G):G:=k (un3 h) (iff_ (un3 h) H)
theorem u4 {α:Type} {b:Bool} {x y r:Option α} {G:Prop} (h:(b != false)=true) (H:(if b=true then x else y)=r) (k:b=true→x=r→G):G:=k (un4 h) (ift (un4 h) H)
theorem andI {a b:Bool} (h:a=true) (h':b=true):(a && b)=true:=by rw [h,h']; rfl
theorem notI {a:Bool} (h:a=false):(!a)=true:=by rw [h]; rfl

def leL (a b:List Nat):Prop:=∀ x,x∈a→x∈b
def LgLe:List (List Nat×List Nat)→List (List Nat×List Nat)→Prop
 | [],[]=>True
 | a::l,b::l'=>(leL a.1 b.1∧leL a.2 b.2)∧LgLe l l'
 | _,_=>False
theorem LgLe.refl:∀ l,LgLe l l
 | []=>trivial
 | _::l=>⟨⟨fun _ h=>h,fun _ h=>h⟩,LgLe.refl l⟩
theorem LgLe.at_:∀ {l l':List (List Nat×List Nat)},LgLe l l'→l.length=l'.length∧∀ i,leL (l.getD i ([],[])).1 (l'.getD i ([],[])).1∧leL (l.getD i ([],[])).2 (l'.getD i ([],[])).2
 | [],[],_=>⟨rfl,fun i=>⟨fun _ h=>h,fun _ h=>h⟩⟩
 | a::l,b::l',h=>by
  obtain ⟨h1,h2⟩:=LgLe.at_ h.2
  refine ⟨by simp [h1],fun i => ?_⟩
  cases i with
  | zero=>exact h.1
  | succ i=>exact h2 i
 | [],_::_,h=>h.elim
 | _::_,[],h=>h.elim
theorem LgLe.rev_ {l l':List (List Nat×List Nat)} (h:LgLe l l') (i:Nat):leL (l.reverse.getD i ([],[])).1 (l'.reverse.getD i ([],[])).1∧leL (l.reverse.getD i ([],[])).2 (l'.reverse.getD i ([],[])).2:=by
 obtain ⟨h1,h2⟩:=h.at_
 rcases Nat.lt_or_ge i l.length with hl | hl
 ·have:=h2 (l.length - 1 - i)
  simp only [List.getD_eq_getElem?_getD] at this ⊢
  rw [List.getElem?_reverse hl,List.getElem?_reverse (by omega),← h1]
  exact this
 ·have e1:l.reverse[i]?=none:=List.getElem?_eq_none (by simpa using hl)
  have e2:l'.reverse[i]?=none:=List.getElem?_eq_none (by simp; omega)
  simp only [List.getD_eq_getElem?_getD,e1,e2]
  exact ⟨fun _ h=>h,fun _ h=>h⟩
def z2k (K:(Nat→Slot)→Own→List (List Nat×List Nat)→Prop):Prop:=∀ f own lg lg',LgLe lg lg'→K f own lg'→K f own lg
theorem y1j {Q:(Nat→Slot)→Own→Prop}:z2k fun f own _=>Q f own:=fun _ _ _ _ _ h=>h
theorem y8m {a a' b b':List Nat} (ha:leL a a') (hb:leL b b') (h:Yq a b=true):Yq a' b'=true:=by
 unfold Yq at h ⊢
 rw [List.any_eq_true] at h ⊢
 obtain ⟨x,h1,h2⟩:=h
 exact ⟨x,ha x h1,by simpa using hb x (by simpa using h2)⟩
theorem w1g {ops:Array Oper} {lg lg':List (List Nat×List Nat)} (h:LgLe lg lg') (hc:Zf ops lg'.reverse=true):Zf ops lg.reverse=true:=by
 unfold Zf at hc ⊢
 rw [List.all_eq_true] at hc ⊢
 intro j hj
 have h1:=hc j hj
 rw [List.all_eq_true] at h1 ⊢
 intro i hi
 have h2:=h1 i hi
 simp only [Bool.or_eq_true,Bool.not_eq_true'] at h2 ⊢
 rcases h2 with h2 | h2
 ·left
  cases hq:ww ops (fun i=>(lg.reverse.getD i ([],[])).1) (fun i=>(lg.reverse.getD i ([],[])).2) i j with
  | false=>rfl
  | true =>
   exfalso
   have:ww ops (fun i=>(lg'.reverse.getD i ([],[])).1) (fun i=>(lg'.reverse.getD i ([],[])).2) i j=true:=by
    unfold ww at hq ⊢
    simp only [Bool.or_eq_true] at hq ⊢
    rcases hq with ((((q | q) | q) | q) | q)
    ·exact .inl (.inl (.inl (.inl q)))
    ·exact .inl (.inl (.inl (.inr q)))
    ·exact .inl (.inl (.inr q))
    ·exact .inl (.inr (y8m (h.rev_ i).2 (h.rev_ j).1 q))
    ·exact .inr (y8m (h.rev_ i).1 (h.rev_ j).2 q)
   rw [this] at h2
   cases h2
 ·exact .inr h2
theorem z0y {ops:Array Oper} {Q:(Nat→Slot)→Own→Prop}:z2k fun f own lg=>Zf ops lg.reverse=true∧Q f own:=fun _ _ _ _ h hk=>⟨w1g h hk.1,hk.2⟩
theorem y7a {P:Program} {ops:Array Oper} {K:(Nat→Slot)→Own→List (List Nat×List Nat)→Prop} (hK:z2k K):∀ (os:List Oper) (f:Nat→Slot) (own:Own) (lg lg':List (List Nat×List Nat)),LgLe lg lg'→seqA P ops os f own lg' K→seqA P ops os f own lg K
 | [],f,own,lg,lg',h,hs=>hK f own lg lg' h hs
 | o::os,f,own,lg,lg',h,hs=>by
  obtain ⟨T,h1,h2⟩:=hs
  exact ⟨T,h1,y7a hK os _ _ _ ((keys T.rd,keys T.wr)::lg') ⟨⟨fun _ h=>h,fun _ h=>h⟩,h⟩ h2⟩

section
variable {P:Program} {ops:Array Oper} {os:List Oper} {f:Nat→Slot} {own:Own} {lg:List (List Nat×List Nat)} {K:(Nat→Slot)→Own→List (List Nat×List Nat)→Prop}
variable {dst:Option Tmp} {op:Op} {ty:TypeId} {pos:String} {af:Array Edge} {s:Slot}
theorem z9c {j d:Nat} {want c:Bool} {v:Value} (h1:(ops[j]?).bind (·.dst)=some d) (h2:f d = .dat (vval v)) (h3:Wh v want = !c) (hst:c=true→Stp P ⟨dst,op,ty,pos,af,some (j,want)⟩ f ⟨false,[],[],s⟩) (h:seqA P ops os (updS f dst (cnS c s)) own (([],[])::lg) K) :
  seqA P ops (⟨dst,op,ty,pos,af,some (j,want)⟩::os) f own lg K:=by
 cases c with
 | true=>exact ⟨⟨false,[],[],s⟩,⟨⟨d,v,h1,h2,h3.symm⟩,fun _=>⟨hst rfl,fun q hq=>(by cases hq)⟩,fun h=>(by cases h),fun k hk=>(by cases hk)⟩,h⟩
 | false=>exact ⟨⟨true,[],[],.dat (vval undef)⟩,⟨⟨d,v,h1,h2,h3.symm⟩,fun h=>(by cases h),fun _=>⟨rfl,rfl,rfl⟩,fun k hk=>(by cases hk)⟩,h⟩
theorem y23 (hA:z2k K) {j d:Nat} {want c:Bool} {v:Value} {id:Nat} {q:Option (Option AObj)} (h1:(ops[j]?).bind (·.dst)=some d) (h2:f d = .dat (vval v)) (h3:Wh v want = !c) (hst:c=true→Stp P ⟨dst,op,ty,pos,af,some (j,want)⟩ f ⟨false,[(id,q)],[],s⟩) (hq:own id=q) (h:seqA P ops os (updS f dst (cnS c s)) own (([id],[])::lg) K) :
  seqA P ops (⟨dst,op,ty,pos,af,some (j,want)⟩::os) f own lg K:=by
 cases c with
 | true=>exact ⟨⟨false,[(id,q)],[],s⟩,⟨⟨d,v,h1,h2,h3.symm⟩,fun _=>⟨hst rfl,fun q' hq'=>(by simp only [List.mem_singleton] at hq'; subst hq'; exact hq)⟩,fun h=>(by cases h),fun k hk=>(by cases hk)⟩,h⟩
 | false=>exact ⟨⟨true,[],[],.dat (vval undef)⟩,⟨⟨d,v,h1,h2,h3.symm⟩,fun h=>(by cases h),fun _=>⟨rfl,rfl,rfl⟩,fun k hk=>(by cases hk)⟩,y7a hA os _ _ _ (([id],[])::lg) ⟨⟨fun x hx=>(nomatch hx),fun x hx=>(nomatch hx)⟩,LgLe.refl lg⟩ h⟩
section
variable {j d:Nat} {b:Bool}
theorem gsT:Wh (.bool b) true = !b:=by cases b <;> rfl
theorem gsF:Wh (.bool b) false = !(!b):=by cases b <;> rfl
theorem y4k {c b:Bool}:cnS c (.dat (zn b)) = .dat (vval (cond c (.bool b) undef)):=by cases c <;> rfl
theorem gcT {c b:Bool}:Wh (cond c (.bool b) undef) true = !(c && b):=by cases c <;> cases b <;> rfl
theorem gcF {c b:Bool}:Wh (cond c (.bool b) undef) false = !(c && !b):=by cases c <;> cases b <;> rfl
theorem qt (h1:(ops[j]?).bind (·.dst)=some d) (h2:f d = .dat (zn b)) (hst:b=true→Stp P ⟨dst,op,ty,pos,af,some (j,true)⟩ f ⟨false,[],[],s⟩) (h:seqA P ops os (updS f dst (cnS b s)) own (([],[])::lg) K) :
  seqA P ops (⟨dst,op,ty,pos,af,some (j,true)⟩::os) f own lg K:=z9c h1 h2 gsT hst h
theorem ue (h1:(ops[j]?).bind (·.dst)=some d) (h2:f d = .dat (zn b)) (hst:(!b)=true→Stp P ⟨dst,op,ty,pos,af,some (j,false)⟩ f ⟨false,[],[],s⟩) (h:seqA P ops os (updS f dst (cnS (!b) s)) own (([],[])::lg) K) :
  seqA P ops (⟨dst,op,ty,pos,af,some (j,false)⟩::os) f own lg K:=z9c h1 h2 gsF hst h
theorem uy {c:Bool} (h1:(ops[j]?).bind (·.dst)=some d) (h2:f d=cnS c (.dat (zn b))) (hst:(c && b)=true→Stp P ⟨dst,op,ty,pos,af,some (j,true)⟩ f ⟨false,[],[],s⟩) (h:seqA P ops os (updS f dst (cnS (c && b) s)) own (([],[])::lg) K) :
  seqA P ops (⟨dst,op,ty,pos,af,some (j,true)⟩::os) f own lg K:=z9c h1 (h2.trans y4k) gcT hst h
theorem z9d {c:Bool} (h1:(ops[j]?).bind (·.dst)=some d) (h2:f d=cnS c (.dat (zn b))) (hst:(c && !b)=true→Stp P ⟨dst,op,ty,pos,af,some (j,false)⟩ f ⟨false,[],[],s⟩) (h:seqA P ops os (updS f dst (cnS (c && !b) s)) own (([],[])::lg) K) :
  seqA P ops (⟨dst,op,ty,pos,af,some (j,false)⟩::os) f own lg K:=z9c h1 (h2.trans y4k) gcF hst h
variable {id:Nat} {q:Option (Option AObj)}
theorem z0e (h1:(ops[j]?).bind (·.dst)=some d) (h2:f d = .dat (zn b)) (hst:b=true→Stp P ⟨dst,op,ty,pos,af,some (j,true)⟩ f ⟨false,[(id,q)],[],s⟩) (hq:own id=q) (hA:z2k K) (h:seqA P ops os (updS f dst (cnS b s)) own (([id],[])::lg) K) :
  seqA P ops (⟨dst,op,ty,pos,af,some (j,true)⟩::os) f own lg K:=y23 hA h1 h2 gsT hst hq h
theorem y66 (h1:(ops[j]?).bind (·.dst)=some d) (h2:f d = .dat (zn b)) (hst:(!b)=true→Stp P ⟨dst,op,ty,pos,af,some (j,false)⟩ f ⟨false,[(id,q)],[],s⟩) (hq:own id=q) (hA:z2k K) (h:seqA P ops os (updS f dst (cnS (!b) s)) own (([id],[])::lg) K) :
  seqA P ops (⟨dst,op,ty,pos,af,some (j,false)⟩::os) f own lg K:=y23 hA h1 h2 gsF hst hq h
theorem y65 {c:Bool} (h1:(ops[j]?).bind (·.dst)=some d) (h2:f d=cnS c (.dat (zn b))) (hst:(c && b)=true→Stp P ⟨dst,op,ty,pos,af,some (j,true)⟩ f ⟨false,[(id,q)],[],s⟩) (hq:own id=q) (hA:z2k K) (h:seqA P ops os (updS f dst (cnS (c && b) s)) own (([id],[])::lg) K) :
  seqA P ops (⟨dst,op,ty,pos,af,some (j,true)⟩::os) f own lg K:=y23 hA h1 (h2.trans y4k) gcT hst hq h
end
def y1l (own:Own):List (Nat×Option (Option AObj))→Prop
 | []=>True
 | (i,q)::l=>own i=q∧y1l own l
theorem y1k:∀ {l:List (Nat×Option (Option AObj))},y1l own l→∀ q,q∈l→own q.1=q.2
 | [],_,q,h=>by cases h
 | _::l,h,q,hq=>by
  rcases List.mem_cons.1 hq with rfl | hq
  ·exact h.1
  ·exact y1k h.2 q hq
def y1f (σ:Nat→Nat) (args:List Slot) (res:Slot) (L:List Ent) (nw:List (Nat×AObj)):Bool:=
 ndB (vk L nw) && ndB ((vk L nw).map σ) && L.all (fun e=>qm e.2.1 e.2.2.2) && nw.all (fun p=>newB p.2 && okQ (ows (we L nw)) p.2) && (args.all (okS (ows (vi L))) && (vi L).all fun p=>okO (ows (vi L)) p.2) && (okT (ows (we L nw)) res && (we L nw).all fun p=>okP (ows (we L nw)) p.2)
theorem y29 (σ:Nat→Nat) (L:List Ent) (nw:List (Nat×AObj)):keys (rdOf σ L nw)=(vk L nw).map σ:=by
 unfold keys rdOf vk
 simp only [List.map_append,List.map_map]
 rfl
theorem y2k {gd:Option (Nat×Bool)} {fn:Nat} {xs:List Operand} {ts:Array TypeId} {args:List Slot} {res:Slot} {σ:Nat→Nat} {L:List Ent} {nw:List (Nat×AObj)} (hF:FnG P fn args (vi L) res (we L nw)) (ha:z4y f σ xs args) (hm:matL σ L) (hb:y1f σ args res L nw=true) :
  Stp P ⟨dst,.call { callee := .value (.func fn),args:=xs.toArray,argTypes:=ts },ty,pos,af,gd⟩ f ⟨false,rdOf σ L nw,wrOf σ L nw,rnS σ res⟩:=by
 unfold y1f at hb
 simp only [Bool.and_eq_true_iff] at hb
 obtain ⟨⟨⟨⟨⟨h1,h2⟩,h3⟩,h4⟩,h5⟩,h6⟩:=hb
 exact x42 σ L nw hF ha hm h1 h2 h3 h4 (by simp only [Bool.and_eq_true_iff]; exact h5) (by simp only [Bool.and_eq_true_iff]; exact h6)
theorem Zp {fn:Nat} {xs:List Operand} {ts:Array TypeId} {args:List Slot} {res:Slot} (σ:Nat→Nat) (L:List Ent) (nw:List (Nat×AObj)) (hF:FnG P fn args (vi L) res (we L nw)) (hrd:y1l own (rdOf σ L nw)) (ha:z4y f σ xs args) (hm:matL σ L) (hb:y1f σ args res L nw=true)
  (h:seqA P ops os (updS f dst (rnS σ res)) (upl own (wrOf σ L nw)) (((vk L nw).map σ,(vk L nw).map σ)::lg) K) :
  seqA P ops (⟨dst,.call { callee := .value (.func fn),args:=xs.toArray,argTypes:=ts },ty,pos,af,none⟩::os) f own lg K:=
 ⟨⟨false,rdOf σ L nw,wrOf σ L nw,rnS σ res⟩,⟨rfl,fun _=>⟨y2k hF ha hm hb,y1k hrd⟩,fun h=>(by cases h),fun k hk=>by rw [y29]; rw [z7x] at hk; exact hk⟩,by
  have e1:(keys (rdOf σ L nw),keys (wrOf σ L nw))=((vk L nw).map σ,(vk L nw).map σ):=by rw [y29,z7x]
  show seqA P ops os _ _ ((keys (rdOf σ L nw),keys (wrOf σ L nw))::lg) K
  rw [e1]; exact h⟩
end
section
variable {P:Program} {f:Nat→Slot} {dst:Option Tmp} {ty:TypeId} {pos:String} {af:Array Edge} {gd:Option (Nat×Bool)}
theorem uv {c x y:Operand} {b p:Bool} (hc:evS f c = .dat (zn b)) (hx:b=true→evS f x = .dat (zn p)) (hy:evS f y = .dat (zn false)):Stp P ⟨dst,.pick c x y,ty,pos,af,gd⟩ f ⟨false,[],[],.dat (zn (b && p))⟩:=by
 cases b with
 | true=>exact yh hc rfl (hx rfl)
 | false=>exact yn hc rfl hy
theorem z1k {c x y:Operand} {b q:Bool} (hc:evS f c = .dat (zn b)) (hx:evS f x = .dat (zn true)) (hy:b=false→evS f y = .dat (zn q)):Stp P ⟨dst,.pick c x y,ty,pos,af,gd⟩ f ⟨false,[],[],.dat (zn (b || q))⟩:=by
 cases b with
 | true=>exact yh hc rfl hx
 | false=>exact yn hc rfl (hy rfl)
end
end Go.Proofs.YtgdijjmdfcgifaaGreat
namespace Go.Proofs.YtgdijjmdfcgifaaGreat
open Go.RowKit
set_option linter.unusedVariables false
def vopt {α:Type} (C:α→List V):Option α→V
 | none=>vval (.pointer none)
 | some x=>zx [C x] 0 0
def subW (f:Nat→Slot):List (Nat×Slot)→Prop
 | []=>True
 | (a,s)::l=>(f a=s∨(f a = .dat vnil∧s = .dat (vlst [])))∧subW f l
theorem y6h {f:Nat→Slot}:∀ {l:List (Nat×Slot)},subW f l→∀ a s,(a,s)∈l→f a=s∨(f a = .dat vnil∧s = .dat (vlst []))
 | [],_,a,s,h=>by cases h
 | (b,r)::l,h,a,s,hm=>by
  rcases List.mem_cons.1 hm with e | hm
  ·cases e; exact h.1
  ·exact y6h h.2 a s hm
theorem y6i {f:Nat→Slot}:∀ {l:List (Nat×Slot)},(keys l).Nodup→∀ (m:List (Nat×Slot)),(∀ a s,(a,s)∈m→(a,s)∈l)→subF (upl f l) m
 | l,nd,[],_=>trivial
 | l,nd,(a,s)::m,h=>⟨by
   rcases z45 f l a with ⟨h1,_⟩ | ⟨q,h1,h2⟩
   ·exact absurd (List.mem_map.2 ⟨(a,s),h a s (by simp),rfl⟩) h1
   ·rw [h2]; exact (x6u (k:=a) nd h1 (h a s (by simp))).symm,y6i nd m fun a s hm=>h a s (List.mem_cons_of_mem _ hm)⟩
theorem w11 {P:Program} {X:Ctx} {Q:Exit→(Nat→Slot)→Own→Prop} {f:Nat→Slot} {own:Own} {ι:Type} {x y:Code} (F:ι→List (Nat×Slot)) (O:ι→List (Nat×AObj)) (I:ι→Prop) (hok:∀ i,okL (F i) (O i)=true) (hnd:∀ i,ndB (keys (F i))=true)
  (hx:AWP P X x (fun e f own=>match e with | .normal=>∃ i,I i∧subW f (F i)∧subO own (O i) | e=>Q e f own) f own)
  (hy:∀ i,I i→AWP P X y Q (frs (F i)) (ows (O i))):AWP P X (.seq x y) Q f own:=by
 intro g a w hr
 refine wpIn_seq (wpIn_mono (hx g a w hr) ?_)
 rintro e a' w' ⟨f',own',g',h1,h2⟩
 cases e with
 | normal =>
  obtain ⟨i,hi,hs,ho⟩:=h2
  have h3:Rel X (upl f' (F i)) own' g' a' w':=by
   refine ⟨h1.kp,h1.m0,h1.n,h1.df,fun t => ?_,h1.ob,h1.sep,h1.mine,h1.fresh,h1.top⟩
   rcases z45 f' (F i) t with ⟨_,q2⟩ | ⟨s,q1,q2⟩
   ·rw [q2]; exact h1.fr t
   ·rw [q2]
    rcases y6h hs t s q1 with q3 | ⟨q3,q4⟩
    ·rw [← q3]; exact h1.fr t
    ·have:=h1.fr t
     rw [q3] at this
     rw [q4]
     exact y5d _ _ _ this
  obtain ⟨g'',h4⟩:=h3.less (F i) (O i) (y6i (Zq (hnd i)) _ fun a s h=>h) ho (hok i)
  exact hy i hi g'' a' w' h4
 | exit id=>exact ⟨f',own',g',h1,h2⟩
 | goto l=>exact ⟨f',own',g',h1,h2⟩
 | ret=>exact ⟨f',own',g',h1,h2⟩
 | panic ch=>exact ⟨f',own',g',h1,h2⟩
 | outgrown=>exact ⟨f',own',g',h1,h2⟩
section
variable {P:Program} {f:Nat→Slot} {dst:Option Tmp} {ty:TypeId} {pos:String} {af:Array Edge} {gd:Option (Nat×Bool)}
variable {α:Type} {C:α→List V} {xs:List α}
end
end Go.Proofs.YtgdijjmdfcgifaaGreat
namespace Go.Proofs.YtgdijjmdfcgifaaGreat
open Go.RowKit
set_option linter.unusedVariables false
section
variable {P:Program} {f:Nat→Slot} {dst:Option Tmp} {ty:TypeId} {pos:String} {af:Array Edge} {gd:Option (Nat×Bool)}
end
end Go.Proofs.YtgdijjmdfcgifaaGreat
namespace Go.Proofs.YtgdijjmdfcgifaaGreat
open Go.RowKit
set_option linter.unusedVariables false
section
variable {P:Program} {X:Ctx} {Q:Exit→(Nat→Slot)→Own→Prop} {f:Nat→Slot} {own:Own} {c:Code}
theorem y5h {β:Type} (f:Nat→β) (i j:Nat) (x y:β):upl f [(i,x),(j,y)] i=x:=by simp [upl]
theorem y5g {β:Type} (f:Nat→β) {i j:Nat} (h:j≠i) (x y:β):upl f [(i,x),(j,y)] j=y:=by simp [upl,qu h]
theorem y5i {β:Type} (f:Nat→β) {i j k:Nat} (h1:k≠i) (h2:k≠j) (x y:β):upl f [(i,x),(j,y)] k=f k:=by simp [upl,qu h1,qu h2]
end
section
variable {P:Program} {f:Nat→Slot} {dst:Option Tmp} {ty:TypeId} {pos:String} {af:Array Edge} {gd:Option (Nat×Bool)}
def cutV (m:Nat):Value→Value
 | .slice a _ cap => .slice a m cap
 | v=>v
theorem Rel.cut {X:Ctx} {f:Nat→Slot} {own:Own} {g:Gh} {a:Act} {w:World} (hr:Rel X f own g a w) (id id':Nat) {e:TypeId} {size:Nat} {es:List (List V)} (m:Nat) (hm:m≤es.length) (ho:own id=some (some (.row e size es))) (ho':own id'=none) :
  ∃ g' v,g.sv id es.length=some v∧g'.sv id' m=some (cutV m v)∧Rel X f (upl own [(id',some (some (.row e size (es.take m)))),(id,some none)]) g' a w:=by
 have hne:id≠id':=by rintro rfl; rw [ho] at ho'; cases ho'
 obtain ⟨v,xs,q1,q2,q3,q4,q5⟩:=hr.ob id _ ho
 have hml:(es.take m).length=m:=by rw [List.length_take]; omega
 let g':Gh:=⟨g.bl,fun i k=>if i=id'∧k=m then some (cutV m v) else g.sv i k⟩
 have hsv:g'.sv id' m=some (cutV m v):=if_pos ⟨rfl,rfl⟩
 have hle:g.le g':=⟨fun _ _ h=>h,fun i k u hu=>by
  show (if i=id'∧k=m then _ else g.sv i k)=some u
  rw [if_neg]
  ·exact hu
  ·rintro ⟨rfl,rfl⟩
   rw [(hr.fresh i ho').2] at hu
   cases hu⟩
 have hown:w.ownsRow 0 e size (cutV m v) m (xs.take (m * size)):=by
  refine ⟨by rw [List.length_take,q2.1]; exact Nat.min_eq_left (Nat.mul_le_mul_right size hm),?_⟩
  rcases q2.2 with ⟨r1,r2⟩ | ⟨b,cap,cur,r1,r3,hb,hnc,r4,hcs,htk⟩
  ·have:m=0:=by omega
   subst this
   exact .inl ⟨by rw [r1]; rfl,rfl⟩
  ·refine .inr ⟨b,cap,cur,by rw [r1]; rfl,r3,hb,by omega,r4,hcs,?_⟩
   rw [← htk,List.take_take,Nat.min_eq_left (Nat.mul_le_mul_right size hm)]
 have hbk:(cutV m v).ownBlock=v.ownBlock:=by
  cases v with
  | slice A n c=>cases A <;> rfl
  | _=>rfl
 have hcase:∀ i o,upl own [(id',some (some (.row e size (es.take m)))),(id,some none)] i=some (some o)→(i=id'∧o = .row e size (es.take m))∨(i≠id'∧i≠id∧own i=some (some o)):=fun i o h1=>by
  by_cases hi:i=id'
  ·subst hi; rw [y5h] at h1; cases h1; exact .inl ⟨rfl,rfl⟩
  ·by_cases hj:i=id
   ·subst hj; rw [y5g own hne] at h1; cases h1
   ·rw [y5i own hi hj] at h1; exact .inr ⟨hi,hj,h1⟩
 have hobk':obk g' id' (.row e size (es.take m))=obk g id (.row e size es):=by simp only [obk,hml,hsv,q1,Option.bind_some,hbk]
 have hblk:∀ i o b,upl own [(id',some (some (.row e size (es.take m)))),(id,some none)] i=some (some o)→obk g' i o=some b→∃ i0 o0,own i0=some (some o0)∧obk g i0 o0=some b∧(i0=if i=id' then id else i):=fun i o b h1 h2=>by
  rcases hcase i o h1 with ⟨rfl,rfl⟩ | ⟨h3,h4,h5⟩
  ·exact ⟨id,_,ho,by rw [← hobk']; exact h2,by simp⟩
  ·refine ⟨i,o,h5,?_,by rw [if_neg h3]⟩
   rw [← (hr.ob i o h5).obk_eq hle]; exact h2
 have hM:∀ b,Mof X g' (upl own [(id',some (some (.row e size (es.take m)))),(id,some none)]) b→Mof X g own b:=fun b hb=>by
  rcases hb with hb | ⟨i,o,h1,h2⟩
  ·exact .inl hb
  ·obtain ⟨i0,o0,h3,h4,_⟩:=hblk i o b h1 h2
   exact .inr ⟨i0,o0,h3,h4⟩
 have he:Ext (Mof X g own) (Mof X g' (upl own [(id',some (some (.row e size (es.take m)))),(id,some none)])) w w:=⟨Nat.le_refl _,fun _ _ _ _=>rfl,fun b _ hb=>hM b hb⟩
 refine ⟨g',v,q1,hsv,hr.kp,hr.m0,hr.n,hr.df,fun t'=>(hr.fr t').keep he hle,fun i o h1 => ?_,fun i i' o o' b h1 h2 h3 h4 => ?_,fun i o b h1 h2 => ?_,fun i h1 => ?_,fun i e' s' es' h1 k hk => ?_⟩
 ·rcases hcase i o h1 with ⟨rfl,rfl⟩ | ⟨h3,h4,h5⟩
  ·refine ⟨cutV m v,xs.take (m * size),by rw [hml]; exact hsv,by rw [hml]; exact hown,q3,fun el hel=>q4 el (List.mem_of_mem_take hel),fun k c el u hk hc => ?_⟩
   rw [List.getElem?_take] at hk
   split at hk
   ·rename_i hkm
    obtain ⟨x,r1,r2,r3⟩:=q5 k c el u hk hc
    have hcl:=(List.getElem?_eq_some_iff.1 hc).1
    have hel:=q4 el (List.mem_of_getElem? hk)
    exact ⟨x,by rw [List.getElem?_take_of_lt (Yx hkm (by omega))]; exact r1,u.keep he r2,r3⟩
   ·cases hk
  ·exact (hr.ob i o h5).keep he hle (fun _ _=>rfl)
 ·obtain ⟨i0,o0,p1,p2,p3⟩:=hblk i o b h1 h3
  obtain ⟨i1,o1,p4,p5,p6⟩:=hblk i' o' b h2 h4
  have:=hr.sep i0 i1 o0 o1 b p1 p4 p2 p5
  rcases hcase i o h1 with ⟨r1,_⟩ | ⟨r1,r2,_⟩ <;> rcases hcase i' o' h2 with ⟨r3,_⟩ | ⟨r3,r4,_⟩
  ·rw [r1,r3]
  ·rw [if_pos r1] at p3; rw [if_neg r3] at p6; exact absurd (p6 ▸ this ▸ p3) r4
  ·rw [if_neg r1] at p3; rw [if_pos r3] at p6; exact absurd (p3.symm.trans (this.trans p6)) r2
  ·rw [if_neg r1] at p3; rw [if_neg r3] at p6; rw [← p3,← p6]; exact this
 ·obtain ⟨i0,o0,p1,p2,_⟩:=hblk i o b h1 h2
  exact hr.mine i0 o0 b p1 p2
 ·have hi:i≠id':=by rintro rfl; rw [y5h] at h1; cases h1
  have hj:i≠id:=by rintro rfl; rw [y5g own hne] at h1; cases h1
  rw [y5i own hi hj] at h1
  exact ⟨(hr.fresh i h1).1,fun k=>by show (if i=id'∧k=m then _ else g.sv i k)=none; rw [if_neg (fun h=>hi h.1)]; exact (hr.fresh i h1).2 k⟩
 ·rcases hcase i _ h1 with ⟨rfl,h3⟩ | ⟨h3,h4,h5⟩
  ·cases h3
   rw [hml] at hk
   show (if i=i∧k=m then _ else g.sv i k)=none
   rw [if_neg (by omega)]
   exact (hr.fresh i ho').2 k
  ·show (if i=id'∧k=m then _ else g.sv i k)=none
   rw [if_neg (fun h=>h3 h.1)]
   exact hr.top i e' s' es' h5 k hk
theorem x4y (id':Nat) {t e e':TypeId} {n size:Nat} {x y:Operand} {id m N:Nat} {es:List (List V)} (ht:tyE P t=some (e,n)) (hx:evS f x = .row id N) (hN:N=es.length) (hy:evS f y = .dat (vint (m:Int))) (hm:m≤es.length) :
  Stp P ⟨dst,.slice t x none (some y) none,ty,pos,af,gd⟩ f ⟨false,[(id,some (some (.row e' size es))),(id',none)],[(id',some (some (.row e' size (es.take m)))),(id,some none)],.row id' m⟩:=by
 subst hN
 intro X f' own g a w Q hr hd hxx hrd K hK
 have ho:own id=some (some (.row e' size es)):=hrd (id,_) (by simp)
 have ho':own id'=none:=hrd (id',none) (by simp)
 obtain ⟨i,d1,d2,d3⟩:=z23 ht
 have h1:RepS g w (Mof X g own) (evS f x) (a.eval x):=by rw [← hxx x (by simp [Op.operands])]; exact hr.ev x
 have h2:RepS g w (Mof X g own) (evS f y) (a.eval y):=by rw [← hxx y (by simp [Op.operands])]; exact hr.ev y
 rw [hx] at h1
 have h1:g.sv id es.length=some (a.eval x):=h1
 have h2:=vc h2 hy
 obtain ⟨g',v,q1,q2,q3⟩:=hr.cut id id' m hm ho ho'
 rw [h1] at q1
 cases q1
 have hv:∃ A cap,a.eval x = .slice A es.length cap∧es.length≤cap:=by
  obtain ⟨v,xs,r1,r2,_⟩:=hr.ob id _ ho
  rw [h1] at r1
  cases r1
  rcases r2.2 with ⟨s1,s2⟩ | ⟨b,cap,cur,s1,_,_,s3,_⟩
  ·exact ⟨none,0,by rw [s1,s2],by omega⟩
  ·exact ⟨_,cap,s1,s3⟩
 obtain ⟨A,cap,hv,hc⟩:=hv
 have hrun:(execOp a.eval ⟨dst,.slice t x none (some y) none,ty,pos,af,gd⟩).run P w = .ok (.value (cutV m (a.eval x))) w:=by
  rw [hv]
  have hmc:m≤cap:=by omega
  simp_all [execOp,Instr.sliceAt,Instr.slice,Instr.sliceBounds,Instr.sliceBound,asIntOf,run_underlying d1,sizeOf,typeInfo,cutV]
  intro _
  cases A with
  | none=>rfl
  | some p=>simp [Addr.add]
 unfold Oper.wp
 rw [hrun]
 exact hK g' _ w (q3.put _ (.row id' m) _ hd q2)
def argL (f:Nat→Slot) (id:Nat) (es:List (List V)) (x:Operand) (u:V):Prop:=(argV (evS f x) u∨∃ n,x = .func n∧u=vfn n [])∨(evS f x = .row id es.length∧u=vlst es)
def y42 (f:Nat→Slot) (id:Nat) (es:List (List V)):List Operand→List V→Prop
 | [],[]=>True
 | x::xs,u::us=>argL f id es x u∧y42 f id es xs us
 | _,_=>False
theorem Rel.lend {X:Ctx} {f:Nat→Slot} {own:Own} {g:Gh} {a:Act} {w:World} (hr:Rel X f own g a w) {id:Nat} {e:TypeId} {size:Nat} {es:List (List V)} (ho:own id=some (some (.row e size es))) :
  ∃ M1:Blks,Mlt w M1∧Ext (Mof X g own) M1 w w∧∀ v,g.sv id es.length=some v→(vlst es).p w M1 v:=by
 obtain ⟨v,xs,q1,q2,q3,q4,q5⟩:=hr.ob id _ ho
 let M1:Blks:=fun b=>Mof X g own b∧v.ownBlock≠some b
 have he:Ext (Mof X g own) M1 w w:=⟨Nat.le_refl _,fun _ _ _ _=>rfl,fun b _ hb=>hb.1⟩
 refine ⟨M1,⟨fun b hb=>hr.mlt.1 b hb.1,hr.mlt.2.1,fun b hb h=>hr.mlt.2.2 b hb h.1⟩,he,fun v' hv' => ?_⟩
 rw [q1] at hv'
 cases hv'
 rcases q2.2 with ⟨r1,r2⟩ | ⟨b,cap,cur,r1,_,hb,hnc,_,hcs,htk⟩
 ·have:es=[]:=List.eq_nil_of_length_eq_zero r2
  subst this
  exact ⟨none,0,r1,Nat.le_refl _,fun h=>absurd rfl h⟩
 ·refine ⟨_,cap,r1,hnc,fun _=>⟨b,0,size,rfl,fun h=>h.2 (by rw [r1]; rfl),cur,e,(0,0),hb,q4,fun k c el u hk hc => ?_⟩⟩
  obtain ⟨x,s1,s2,s3⟩:=q5 k c el u hk hc
  refine ⟨x,?_,u.keep he s2,s3⟩
  rw [← htk,List.getElem?_take] at s1
  split at s1
  ·rw [Nat.zero_add]; simpa using s1
  ·cases s1
theorem w2b {f:Nat→Slot} {id:Nat} {es:List (List V)} {g:Gh} {w:World} {M M1:Blks} {ev:Operand→Value} (hev:∀ n,ev (.func n) = .func (.func n) #[] #[]) (he:Ext M M1 w w) (hrow:∀ v,g.sv id es.length=some v→(vlst es).p w M1 v) :
  ∀ (xs:List Operand) (us:List V),y42 f id es xs us→(∀ x,x∈xs→RepS g w M (evS f x) (ev x))→Ts w M1 us (xs.map ev):=by
 intro xs
 induction xs with
 | nil =>
  intro us h _
  cases us with
  | nil=>exact ⟨rfl,fun j u hj=>by simp at hj⟩
  | cons u us=>cases h
 | cons x xs ih =>
  intro us h hv
  cases us with
  | nil=>cases h
  | cons u us =>
   have h2:=ih us h.2 (fun y hy=>hv y (List.mem_cons_of_mem _ hy))
   refine ⟨by simp [h2.1],fun j u' hj => ?_⟩
   cases j with
   | zero =>
    simp at hj; subst hj
    rcases h.1 with (h3 | ⟨n,rfl,rfl⟩) | ⟨h3,rfl⟩
    ·exact ⟨_,rfl,u.keep he (y43 h3 (hv x (by simp)))⟩
    ·refine ⟨_,rfl,[],?_,rfl,fun j u hj=>by simp at hj⟩
     rw [hev]
    ·have h4:=hv x (by simp)
     rw [h3] at h4
     exact ⟨_,rfl,hrow _ h4⟩
   | succ j=>exact h2.2 j u' (by simpa using hj)
theorem z8z {fn:Nat} {xs:Array Operand} {ts:Array TypeId} {us:List V} {res:V} {id:Nat} {e:TypeId} {size:Nat} {es:List (List V)} (hF:Fn P fn us res) (ha:y42 f id es xs.toList us) (hres:∀ w M M' v,res.p w M v→res.p w M' v) :
  Stp P ⟨dst,.call { callee := .value (.func fn),args:=xs,argTypes:=ts },ty,pos,af,gd⟩ f ⟨false,[(id,some (some (.row e size es)))],[],.dat res⟩:=by
 intro X f' own g a w Q hr hd hx hrd K hK
 have ho:own id=some (some (.row e size es)):=hrd (id,_) (by simp)
 obtain ⟨M1,hM1,he,hrow⟩:=hr.lend ho
 unfold Oper.wp
 rw [z1m hF.1 xs ts a.eval rfl w]
 show Calls P fn (xs.map a.eval) w _
 have hT:Ts w M1 us (xs.map a.eval).toList:=by
  rw [Array.toList_map]
  exact w2b (fun _=>rfl) he hrow xs.toList us ha (fun x hm=>by
   have:=hx x (by simp only [Op.operands,Call.operands]; simp at hm ⊢; exact .inr hm)
   rw [← this]; exact hr.ev x)
 refine (hF.2 _ w _ hM1 hT).mono ?_
 rintro e w' ⟨v,rfl,h1,h2⟩
 exact hK g v w' ((hr.grow h2).put _ (.dat res) v hd (hres _ _ _ _ h1))
end
end Go.Proofs.YtgdijjmdfcgifaaGreat
namespace Go.Proofs.YtgdijjmdfcgifaaGreat
open Go.RowKit
set_option linter.unusedVariables false
section
variable {P:Program} {f:Nat→Slot} {dst:Option Tmp} {ty:TypeId} {pos:String} {af:Array Edge} {gd:Option (Nat×Bool)}
theorem x4d {t e e':TypeId} {n size:Nat} {x y:Operand} {id k N:Nat} {es:List (List V)} (ht:tyE P t=some (e,size)) (hx:evS f x = .row id N) (hN:N=es.length) (hy:evS f y = .dat (vint (k:Int))) (hk:k < es.length) :
  Stp P ⟨dst,.slice t x (some y) none none,ty,pos,af,gd⟩ f ⟨false,[(id,some (some (.row e' size es)))],[],.rsub id N size k⟩:=by
 subst hN
 refine xv fun X own g a w h ho => ?_
 obtain ⟨i,d1,d2,d3⟩:=z23 ht
 have h1:=h x (by simp [Op.operands])
 have h2:=vc (h y (by simp [Op.operands])) hy
 rw [hx] at h1
 have h1:g.sv id es.length=some (a.eval x):=h1
 obtain ⟨v,xs,r1,r2,_⟩:=ho
 rw [h1] at r1
 cases r1
 rcases r2.2 with ⟨s1,s2⟩ | ⟨b,cap,cur,s1,_,_,s3,_⟩
 ·omega
 ·refine ⟨.slice (some ⟨b,if cap=k then 0 else k * size,none⟩) (es.length - k) (cap - k),?_,b,cap,by rw [h1,s1],rfl⟩
  by_cases hck:cap=k
  ·omega
  ·simp_all [execOp,Instr.sliceAt,Instr.slice,Instr.sliceBounds,Instr.sliceBound,asIntOf,run_underlying d1,sizeOf,typeInfo]
   rw [if_pos (Nat.le_of_lt hk)]
   unfold Addr.add
   by_cases h0:k * size=0 <;> simp [h0]
theorem y62 {b:Nat} {t:TypeId}:∀ (vs:List Value) (o:Nat) (w:World) (cs:Array Value),Blk w b t cs→o+vs.length≤cs.size→∃ cs',Blk (w.setCells b o vs) b t cs'∧cs'.size=cs.size∧∀ j,cs'[j]?=if o≤j∧j < o+vs.length then vs[j - o]? else cs[j]?
 | [],o,w,cs,h,_=>⟨cs,h,rfl,fun j=>by rw [if_neg (by simp)]⟩
 | v::vs,o,w,cs,h,hl=>by
  simp only [List.length_cons] at hl
  obtain ⟨cs',h1,h2,h3⟩:=y62 vs (o+1) (w.setCell ⟨b,o,none⟩ v) (cs.setIfInBounds o v) (h.set_ o v) (by simp; omega)
  refine ⟨cs',h1,by simpa using h2,fun j => ?_⟩
  rw [h3 j]
  by_cases hj:j=o
  ·subst hj
   rw [if_neg (by omega),if_pos ⟨Nat.le_refl _,by simp⟩]
   simp [show j < cs.size by omega]
  ·by_cases hj2:o+1≤j∧j < o+1+vs.length
   ·rw [if_pos hj2,if_pos ⟨by omega,by simp only [List.length_cons]; omega⟩]
    have:j - o=(j - (o+1))+1:=by omega
    rw [this,List.getElem?_cons_succ]
   ·rw [if_neg hj2,if_neg (by simp only [List.length_cons]; omega)]
    exact Array.getElem?_setIfInBounds_ne (fun h=>hj h.symm)
theorem y61 {b:Nat}:∀ (vs:List Value) (o:Nat) (a w:World),Kp [b] a w→Kp [b] a (w.setCells b o vs)
 | [],o,a,w,h=>h
 | v::vs,o,a,w,h=>y61 vs (o+1) a _ (h.set_ (.inl (by simp)) v)
theorem y7h {w:World} {t e ty:TypeId} {z:Value} (ht:P.underlying t=some (.slice e)) (hv:(zeroValue e).run P w = .ok z w) (h1:z.cells.toList.all (·.oneCell')=true) (b o n c:Nat) (hn:0 < n)
  (hc:∀ j,j < (Builtin.zeroCells z.cells n).toList.length→(w.cell? ⟨b,o+j,none⟩).isSome=true) (hf:∀ j,j < (Builtin.zeroCells z.cells n).toList.length→w.frozen? ⟨b,o+j,none⟩=false) (hone:∀ v,v∈(Builtin.zeroCells z.cells n).toList→v.oneCell'=true) :
  (Builtin.clear_ #[t] ty #[.slice (some ⟨b,o,none⟩) n c]).run P w = .ok (.tuple #[]) (w.setCells b o (Builtin.zeroCells z.cells n).toList):=by
 have hst:=run_storeCells_cells (P:=P) b o (Builtin.zeroCells z.cells n).toList 0 w (by simpa using hc) (by simpa using hf) hone
 simp only [Nat.add_zero] at hst
 obtain ⟨m,rfl⟩:∃ m,n=m+1:=⟨n - 1,by omega⟩
 simp [Builtin.clear_,run_underlying ht,hv,hst]
theorem y5b (zs:Array Value) (n:Nat):(Builtin.zeroCells zs n).toList.length=n * zs.size:=by simp [Builtin.zeroCells]
theorem y1p (zs:Array Value) (n k c:Nat) (hk:k < n) (hc:c < zs.size):(Builtin.zeroCells zs n).toList[k * zs.size+c]?=zs[c]?:=by
 have hlt:k * zs.size+c < n * zs.size:=Yx hk hc
 have e10:(k * zs.size+c) % zs.size=c:=by rw [Nat.mul_comm,Nat.mul_add_mod]; exact Nat.mod_eq_of_lt hc
 rw [Array.getElem?_toList]
 simp [Builtin.zeroCells,hlt,e10,Array.getElem?_eq_getElem hc,getElem!_pos zs c hc]
theorem x40 {t e e' t':TypeId} {size:Nat} {x:Operand} {id k N:Nat} {zs:List Value} {es:List (List V)} (ht:P.underlying t=some (.slice e)) (hz:tyZ P e=some zs) (h1:zs.all (·.oneCell')=true) (hsz:zs.length=size) (hx:evS f x = .rsub id N size k) (hN:N=es.length) (hk:k < es.length) :
  Stp P ⟨dst,.call { callee := .builtin .clear,args := #[x],argTypes := #[t] },ty,pos,af,gd⟩ f ⟨false,[(id,some (some (.row e' size es)))],[(id,some (some (.row e' size (es.take k++List.replicate (es.length - k) (zs.map vval)))))],.any⟩:=by
 subst hN
 refine Qr fun X f' own g a w hr ho hh => ?_
 have h2:=hh x (by simp [Op.operands,Call.operands])
 rw [hx] at h2
 obtain ⟨b,cap,p1,p2⟩:=h2
 obtain ⟨u,xs,q1,q2,q3,q4,q5⟩:=hr.ob id _ ho
 rw [p1] at q1
 cases q1
 rcases q2.2 with ⟨e1,_⟩ | ⟨b',cap',cur,e1,e2,e3,e4,e5,e6,e7⟩
 ·cases e1
 ·cases e1
  have hck:¬ cap=k:=by omega
  rw [if_neg hck] at p2
  obtain ⟨z,hz1,hz2⟩:∃ z,(zeroValue e).run P w = .ok z w∧z.cells.toList=zs:=by
   unfold tyZ at hz
   cases hi:P.info? e with
   | none=>rw [hi] at hz; cases hz
   | some i =>
    rw [hi] at hz
    cases hzz:i.zero with
    | none=>simp [hzz] at hz
    | some z=>simp [hzz] at hz; exact ⟨z,by simp [zeroValue,typeInfo,hi,hzz],hz⟩
  have hzs:z.cells.size=size:=by rw [← hsz,← hz2]; simp
  let vs:=(Builtin.zeroCells z.cells (es.length - k)).toList
  have hvl:vs.length=(es.length - k) * size:=by rw [← hzs]; exact y5b _ _
  have hfit:k * size+vs.length=es.length * size:=by rw [hvl,← Nat.add_mul]; congr 1; omega
  have hcur:es.length * size≤cur.size:=by rw [e6]; exact Nat.mul_le_mul_right _ e4
  have hvone:∀ v,v∈vs→v.oneCell'=true:=fun v hv=>by
   obtain ⟨j,hj,rfl⟩:=List.getElem_of_mem hv
   have hj':j < (es.length - k) * size:=by rw [← hvl]; exact hj
   have h5:=y1p z.cells (es.length - k) (j / size) (j % size) (Nat.div_lt_of_lt_mul (by rw [Nat.mul_comm]; exact hj')) (by rw [hzs]; exact Nat.mod_lt _ q3)
   rw [hzs,Nat.mul_comm,Nat.div_add_mod] at h5
   have h6:vs[j]?=some vs[j]:=List.getElem?_eq_getElem hj
   have h7:(Builtin.zeroCells z.cells (es.length - k)).toList[j]?=some vs[j]:=h6
   rw [h7] at h5
   have h8:vs[j]∈zs:=by rw [← hz2]; exact Array.mem_toList_iff.2 (Array.mem_of_getElem? h5.symm)
   exact (List.all_eq_true.1 h1) _ h8
  have hrun:=y7h (P:=P) (w:=w) (t:=t) (e:=e) (ty:=ty) (z:=z) ht hz1 (by rw [hz2]; exact h1) b (k * size) (es.length - k) (cap - k) (by omega) (fun j hj=>by
   have hj:j < vs.length:=hj
   rw [cell_of_row w b _ _ _ _ e3,Array.getElem?_eq_getElem (by omega)]; rfl) (fun j hj=>by simp [World.frozen?,e3]) hvone
  obtain ⟨cs',k1,k2,k3⟩:=y62 vs (k * size) w cur e3 (by omega)
  refine ⟨g,w.setCells b (k * size) vs,.value (.tuple #[]),.tuple #[],Gh.le_refl g,fun i hi=>⟨rfl,fun _=>rfl⟩,?_,.inl rfl,.inr ⟨_,b,ho,by simp only [obk]; rw [p1]; rfl,y61 vs _ w w (Kp.refl [b] w)⟩,fun b' hb => .inr ⟨_,ho,?_⟩,fun e'' s' es' h k' hk' => ?_,fun M' he=>⟨?_,trivial⟩⟩
  ·simp only [execOp,resolve,invoke,builtin]
   simp [p2,hrun,vs]
  ·simp only [obk] at hb ⊢
   have:(es.take k++List.replicate (es.length - k) (zs.map vval)).length=es.length:=by simp; omega
   rw [this] at hb; exact hb
  ·cases h
   have:(es.take k++List.replicate (es.length - k) (zs.map vval)).length=es.length:=by simp; omega
   rw [this] at hk'
   exact hr.top id _ _ _ ho k' hk'
  ·have hlen:(es.take k++List.replicate (es.length - k) (zs.map vval)).length=es.length:=by simp; omega
   refine ⟨.slice (some ⟨b,0,none⟩) es.length cap,cs'.toList.take (es.length * size),by rw [hlen]; exact p1,by
    rw [hlen]
    exact ⟨by rw [List.length_take]; exact Nat.min_eq_left (show es.length * size≤cs'.toList.length by rw [Array.length_toList (xs:=cs'),k2]; exact hcur),.inr ⟨b,cap,cs',rfl,e2,k1,e4,e5,by rw [k2,e6],rfl⟩⟩,q3,fun el hel => ?_,fun j c el u hj hc => ?_⟩
   ·rcases List.mem_append.1 hel with h | h
    ·exact q4 el (List.mem_of_mem_take h)
    ·rw [List.eq_of_mem_replicate h]; simpa using hsz
   ·have hjl:j < es.length:=by rw [← hlen]; exact (List.getElem?_eq_some_iff.1 hj).1
    rcases Nat.lt_or_ge j k with hjk | hjk
    ·rw [List.getElem?_append_left (by simp; omega),List.getElem?_take_of_lt hjk] at hj
     have hcl:=(List.getElem?_eq_some_iff.1 hc).1
     have hel:=q4 el (List.mem_of_getElem? hj)
     obtain ⟨y,s1,s2,s3⟩:=q5 j c el u hj hc
     have hp1:j * size+c < k * size:=Yx hjk (by omega)
     have hp2:j * size+c < es.length * size:=Yx hjl (by omega)
     refine ⟨y,?_,u.keep he s2,s3⟩
     rw [List.getElem?_take_of_lt hp2,Array.getElem?_toList,k3,if_neg (by omega)]
     rw [← e7,List.getElem?_take_of_lt hp2,Array.getElem?_toList] at s1
     exact s1
    ·rw [List.getElem?_append_right (by simp; omega)] at hj
     have hel:=List.eq_of_mem_replicate (List.mem_of_getElem? hj)
     subst hel
     rw [List.getElem?_map] at hc
     cases hq:zs[c]? with
     | none=>rw [hq] at hc; cases hc
     | some y =>
      rw [hq] at hc
      cases hc
      have hcl:c < size:=by rw [← hsz]; exact (List.getElem?_eq_some_iff.1 hq).1
      have hp2:j * size+c < es.length * size:=Yx hjl hcl
      refine ⟨y,?_,rfl,(List.all_eq_true.1 h1) y (List.mem_of_getElem? hq)⟩
      have hge:k * size≤j * size+c:=Nat.le_trans (Nat.mul_le_mul_right _ hjk) (Nat.le_add_right _ _)
      rw [List.getElem?_take_of_lt hp2,Array.getElem?_toList,k3,if_pos ⟨hge,by omega⟩]
      have hsub:j * size+c - k * size=(j - k) * z.cells.size+c:=by rw [hzs,Nat.sub_mul]; have:=Nat.mul_le_mul_right size hjk; omega
      rw [hsub]
      have:=y1p z.cells (es.length - k) (j - k) c (by omega) (by omega)
      show (Builtin.zeroCells z.cells (es.length - k)).toList[_]?=_
      rw [this,← Array.getElem?_toList,hz2,hq]
section
variable {α:Type} {C:α→List V} {xs:List α}
theorem w1f {m:Int} (h:0≤m∧m≤(xs.length:Int)):m.toNat=(xs.take m.toNat).length:=by rw [List.length_take]; omega
theorem x0u {k:Int} (z:α) (h:0≤k∧k < (xs.length:Int)):xs.length=(xs.take k.toNat++List.replicate (xs.length - k.toNat) z).length:=by simp; omega
theorem x3q (id':Nat) {t e e':TypeId} {n size:Nat} {x y:Operand} {id N:Nat} {m:Int} (ht:tyE P t=some (e,n)) (hx:evS f x = .row id N) (hN:N=xs.length) (hy:evS f y = .dat (vint m)) (hm:0≤m∧m≤(xs.length:Int)) :
  Stp P ⟨dst,.slice t x none (some y) none,ty,pos,af,gd⟩ f ⟨false,[(id,some (some (.row e' size (xs.map C)))),(id',none)],[(id',some (some (.row e' size ((xs.take m.toNat).map C)))),(id,some none)],.row id' m.toNat⟩:=by
 have h:=x4y (P:=P) (f:=f) (dst:=dst) (ty:=ty) (pos:=pos) (af:=af) (gd:=gd) id' (e':=e') (size:=size) (m:=m.toNat) (es:=xs.map C) ht hx (by rw [List.length_map]; exact hN) (by rw [hy]; congr 2; omega) (by rw [List.length_map]; omega)
 rw [← List.map_take] at h
 exact h
theorem x3n {t e e':TypeId} {size:Nat} {x y:Operand} {id N:Nat} {k:Int} (ht:tyE P t=some (e,size)) (hx:evS f x = .row id N) (hN:N=xs.length) (hy:evS f y = .dat (vint k)) (hk:0≤k∧k < (xs.length:Int)) :
  Stp P ⟨dst,.slice t x (some y) none none,ty,pos,af,gd⟩ f ⟨false,[(id,some (some (.row e' size (xs.map C))))],[],.rsub id N size k.toNat⟩:=
 x4d (n:=size) (es:=xs.map C) ht hx (by rw [List.length_map]; exact hN) (by rw [hy]; congr 2; omega) (by rw [List.length_map]; omega)
theorem x3r (z:α) {t e e':TypeId} {size:Nat} {x:Operand} {id N:Nat} {k:Int} {zs:List Value} (ht:P.underlying t=some (.slice e)) (hz:tyZ P e=some zs) (h1:zs.all (·.oneCell')=true) (hsz:zs.length=size) (hCz:zs.map vval=C z) (hx:evS f x = .rsub id N size k.toNat) (hN:N=xs.length) (hk:0≤k∧k < (xs.length:Int)) :
  Stp P ⟨dst,.call { callee := .builtin .clear,args := #[x],argTypes := #[t] },ty,pos,af,gd⟩ f ⟨false,[(id,some (some (.row e' size (xs.map C))))],[(id,some (some (.row e' size ((xs.take k.toNat++List.replicate (xs.length - k.toNat) z).map C))))],.any⟩:=by
 have h:=x40 (P:=P) (f:=f) (dst:=dst) (ty:=ty) (pos:=pos) (af:=af) (gd:=gd) (t':=t) (e':=e') (es:=xs.map C) ht hz h1 hsz hx (by rw [List.length_map]; exact hN) (by rw [List.length_map]; omega)
 have e1:(xs.map C).take k.toNat++List.replicate ((xs.map C).length - k.toNat) (zs.map vval)=(xs.take k.toNat++List.replicate (xs.length - k.toNat) z).map C:=by
  rw [List.map_append,List.map_take,List.map_replicate,List.length_map,hCz]
 rw [e1] at h
 exact h
end
end
end Go.Proofs.YtgdijjmdfcgifaaGreat
namespace Go.Proofs.YtgdijjmdfcgifaaGreat
open Go.RowKit
set_option linter.unusedVariables false

theorem y98 (σ:Nat→Nat):∀ (l:List (Nat×Slot)) (t:Nat),frs (l.map fun p=>(p.1,rnS σ p.2)) t=rnS σ (frs l t)
 | [],t=>rfl
 | (k,s)::l,t=>by
  have ih:=y98 σ l t
  unfold frs at ih ⊢
  simp only [List.map_cons,upl]
  rw [ih]
  cases Nat.beq t k <;> rfl
theorem y4a {own:Own}:∀ (l:List (Nat×Slot)),l.all (fun p=>okS own p.2)=true→∀ t,okS own (frs l t)=true
 | [],_,t=>rfl
 | (k,s)::l,h,t=>by
  simp only [List.all_cons,Bool.and_eq_true] at h
  have ih:=y4a l h.2 t
  unfold frs at ih ⊢
  simp only [upl]
  cases Nat.beq t k
  ·exact ih
  ·exact h.1
theorem y70 (σ:Nat→Nat):∀ (l:List (Nat×AObj)) (i:Nat) (x:Option AObj),ows (l.map fun p=>(σ p.1,rnO σ p.2)) i=some x→∃ p,p∈l∧σ p.1=i∧x=some (rnO σ p.2)
 | [],i,x,h=>by cases h
 | (k,o)::l,i,x,h=>by
  unfold ows at h
  simp only [List.map_cons,upl] at h
  by_cases hk:i=σ k
  ·subst hk
   have:Nat.beq (σ k) (σ k)=true:=by simp
   simp only [this,cond_true] at h
   cases h
   exact ⟨(k,o),by simp,rfl,rfl⟩
  ·simp only [qu hk,cond_false] at h
   obtain ⟨p,h1,h2⟩:=y70 σ l i x h
   exact ⟨p,List.mem_cons_of_mem _ h1,h2⟩
theorem y7z (σ:Nat→Nat):∀ (l:List (Nat×AObj)) (i:Nat),ows (l.map fun p=>(σ p.1,rnO σ p.2)) i=none→∀ p,p∈l→σ p.1≠i
 | [],i,h,p,hp=>by cases hp
 | (k,o)::l,i,h,p,hp=>by
  unfold ows at h
  simp only [List.map_cons,upl] at h
  by_cases hk:i=σ k
  ·subst hk
   have:Nat.beq (σ k) (σ k)=true:=by simp
   simp only [this,cond_true] at h
   cases h
  ·simp only [qu hk,cond_false] at h
   rcases List.mem_cons.1 hp with rfl | hp
   ·exact fun h=>hk h.symm
   ·exact y7z σ l i h p hp
theorem y71:∀ (l:List (Nat×AObj)),(l.map (·.1)).Nodup→∀ p,p∈l→ows l p.1=some (some p.2)
 | [],_,p,hp=>by cases hp
 | (k,o)::l,hn,p,hp=>by
  unfold ows
  simp only [List.map_cons,upl]
  rw [List.map_cons,List.nodup_cons] at hn
  rcases List.mem_cons.1 hp with rfl | hp
  ·have:Nat.beq k k=true:=by simp
   simp only [this,cond_true]
  ·have hk:p.1≠k:=fun h=>hn.1 (by rw [← h]; exact List.mem_map.2 ⟨p,hp,rfl⟩)
   simp only [qu hk,cond_false]
   exact y71 l hn.2 p hp
theorem Rel.ren {X:Ctx} {g:Gh} {a:Act} {w:World} (σ:Nat→Nat) (lf:List (Nat×Slot)) (lo:List (Nat×AObj)) (hok:okL lf lo=true) (hnd:ndB ((lo.map (·.1)).map σ)=true) (h:Rel X (frs lf) (ows lo) g a w) :
  ∃ g',Rel X (frs (lf.map fun p=>(p.1,rnS σ p.2))) (ows (lo.map fun p=>(σ p.1,rnO σ p.2))) g' a w:=by
 classical
 simp only [okL,Bool.and_eq_true] at hok
 have nd:=Zq hnd
 have ndp:(lo.map (·.1)).Pairwise fun a b=>σ a≠σ b:=List.pairwise_map.1 nd
 have nd0:(lo.map (·.1)).Nodup:=ndp.imp fun {a b} h e=>h (congrArg σ e)
 have hinj:∀ i j,i∈lo.map (·.1)→j∈lo.map (·.1)→σ i=σ j→i=j:=fun i j hi hj hs=>by
  obtain ⟨m,hm,rfl⟩:=List.getElem_of_mem hi
  obtain ⟨n,hn,rfl⟩:=List.getElem_of_mem hj
  have hp:=List.pairwise_iff_getElem.1 ndp
  rcases Nat.lt_trichotomy m n with h1 | h1 | h1
  ·exact absurd hs (hp m n hm hn h1)
  ·subst h1; rfl
  ·exact absurd hs.symm (hp n m hn hm h1)
 let τ:Nat→Option Nat:=fun i=>(lo.map (·.1)).find? fun j=>σ j == i
 have hτ:∀ j,j∈lo.map (·.1)→τ (σ j)=some j:=fun j hj=>by
  cases hq:τ (σ j) with
  | none =>
   have:=List.find?_eq_none.1 hq j hj
   simp at this
  | some k =>
   have h1:=List.find?_some hq
   have h2:=List.mem_of_find?_eq_some hq
   rw [hinj k j h2 hj (by simpa using h1)]
 let g':Gh:=⟨fun i=>(τ i).bind g.bl,fun i n=>(τ i).bind fun j=>g.sv j n⟩
 have gb:∀ j,j∈lo.map (·.1)→g'.bl (σ j)=g.bl j:=fun j hj=>by show (τ (σ j)).bind g.bl=_; rw [hτ j hj]; rfl
 have gs:∀ j n,j∈lo.map (·.1)→g'.sv (σ j) n=g.sv j n:=fun j n hj=>by show (τ (σ j)).bind (fun j=>g.sv j n)=_; rw [hτ j hj]; rfl
 have hlive:∀ j,qp (ows lo) j=true→j∈lo.map (·.1):=fun j hj=>by
  obtain ⟨o,ho⟩:=jy hj
  have e1:ows (lo.map fun p=>((fun i=>i) p.1,p.2)) j=some (some o):=by
   have:(lo.map fun p=>((fun i=>i) p.1,p.2))=lo:=by simp
   rw [this]; exact ho
  have:∀ (l:List (Nat×AObj)),ows l j=some (some o)→j∈l.map (·.1):=by
   intro l
   induction l with
   | nil=>intro h; cases h
   | cons p l ih =>
    intro h
    unfold ows at h
    simp only [List.map_cons,upl] at h
    by_cases hk:j=p.1
    ·rw [hk]; simp
    ·simp only [qu hk,cond_false] at h
     exact List.mem_cons_of_mem _ (ih h)
  exact this lo ho
 have hobk:∀ j o,j∈lo.map (·.1)→obk g' (σ j) (rnO σ o)=obk g j o:=fun j o hj=>by
  cases o with
  | box an t cs=>exact gb j hj
  | row e size es=>simp only [rnO,obk,gs j _ hj]
  | opq an R=>exact gb j hj
  | rowA v e size es=>rfl
 have hin:∀ i o2,ows (lo.map fun p=>(σ p.1,rnO σ p.2)) i=some (some o2)→∃ j o,j∈lo.map (·.1)∧σ j=i∧o2=rnO σ o∧ows lo j=some (some o)∧(j,o)∈lo:=fun i o2 h1=>by
  obtain ⟨p,h2,h3,h4⟩:=y70 σ lo i _ h1
  cases h4
  exact ⟨p.1,p.2,List.mem_map_of_mem h2,h3,rfl,y71 lo nd0 p h2,h2⟩
 have hM:∀ b,Mof X g' (ows (lo.map fun p=>(σ p.1,rnO σ p.2))) b→Mof X g (ows lo) b:=fun b hb=>by
  rcases hb with hb | ⟨i,o2,h1,h2⟩
  ·exact .inl hb
  ·obtain ⟨j,o,h3,rfl,rfl,h4,_⟩:=hin i o2 h1
   rw [hobk j o h3] at h2
   exact .inr ⟨j,o,h4,h2⟩
 have he:Ext (Mof X g (ows lo)) (Mof X g' (ows (lo.map fun p=>(σ p.1,rnO σ p.2)))) w w:=⟨Nat.le_refl _,fun _ _ _ _=>rfl,fun b _ hb=>hM b hb⟩
 have hS:∀ s v,okS (ows lo) s=true→RepS g w (Mof X g (ows lo)) s v→RepS g' w (Mof X g' (ows (lo.map fun p=>(σ p.1,rnO σ p.2)))) (rnS σ s) v:=fun s v hs hv=>by
  cases s with
  | any=>trivial
  | dat u=>exact u.keep he hv
  | ptr id off=>obtain ⟨b,h1,h2⟩:=hv; exact ⟨b,(gb id (hlive id hs)).trans h1,h2⟩
  | row id n=>exact (gs id n (hlive id hs)).trans hv
  | rptr id n size k c=>obtain ⟨b,cap,h1,h2⟩:=hv; exact ⟨b,cap,(gs id n (hlive id hs)).trans h1,h2⟩
  | mp id=>obtain ⟨b,h1,h2⟩:=hv; exact ⟨b,(gb id (hlive id hs)).trans h1,h2⟩
  | rsub id n size k=>obtain ⟨b,cap,h1,h2⟩:=hv; exact ⟨b,cap,(gs id n (hlive id hs)).trans h1,h2⟩
  | nptr id =>
   rcases hv with hv | ⟨b,h1,h2⟩
   ·exact .inl hv
   ·exact .inr ⟨b,(gb id (hlive id hs)).trans h1,h2⟩
  | dr id u=>obtain ⟨b,h1,h2⟩:=hv; exact ⟨b,(gb id (hlive id hs)).trans h1,(u b).keep he h2⟩
  | comp tup cs =>
   refine kq.map (rnC σ) hv fun c x hc hx => ?_
   have hs':okC (ows lo) c=true:=(List.all_eq_true.1 hs) c hc
   cases c with
   | dat u=>exact u.keep he hx
   | ptr id off=>obtain ⟨b,h1,h2⟩:=hx; exact ⟨b,(gb id (hlive id hs')).trans h1,h2⟩
   | row id n=>exact (gs id n (hlive id hs')).trans hx
   | mp id=>obtain ⟨b,h1,h2⟩:=hx; exact ⟨b,(gb id (hlive id hs')).trans h1,h2⟩
 refine ⟨g',h.kp,h.m0,h.n,h.df,fun t => ?_,fun i o2 h1 => ?_,fun i i' o2 o2' b h1 h2 h3 h4 => ?_,fun i o2 b h1 h2 => ?_,fun i h1 => ?_,fun i e size es h1 k hk => ?_⟩
 ·rw [y98]
  exact hS _ _ (y4a lf hok.1 t) (h.fr t)
 ·obtain ⟨j,o,h2,rfl,rfl,h3,h4⟩:=hin i o2 h1
  have h5:=h.ob j o h3
  have h6:=(List.all_eq_true.1 hok.2) (j,o) h4
  cases o with
  | box an t cs =>
   obtain ⟨b,l,q1,q0,q2,q3,q4⟩:=h5
   refine ⟨b,l,(gb j h2).trans q1,q0,q2,by rw [List.length_map]; exact q3,fun k s hs => ?_⟩
   rw [List.getElem?_map] at hs
   cases hq:cs[k]? with
   | none=>rw [hq] at hs; cases hs
   | some s0 =>
    rw [hq] at hs
    cases hs
    obtain ⟨x,r1,r2,r3⟩:=q4 k s0 hq
    exact ⟨x,r1,hS _ _ ((List.all_eq_true.1 h6) s0 (List.mem_of_getElem? hq)) r2,r3⟩
  | row e size es =>
   obtain ⟨v,xs,q1,q2,q3,q4,q5⟩:=h5
   refine ⟨v,xs,(gs j _ h2).trans q1,q2,q3,q4,fun k c el u hk hc => ?_⟩
   obtain ⟨x,r1,r2,r3⟩:=q5 k c el u hk hc
   exact ⟨x,r1,u.keep he r2,r3⟩
  | opq an R =>
   obtain ⟨b,o,q1,q0,q2,q3⟩:=h5
   exact ⟨b,o,(gb j h2).trans q1,q0,q2,q3⟩
  | rowA v e size es =>
   obtain ⟨xs,q1,q2,q3,q4,q5⟩:=h5
   refine ⟨xs,(gs j _ h2).trans q1,q2,q3,q4,fun k c el u hk hc => ?_⟩
   obtain ⟨x,r1,r2,r3⟩:=q5 k c el u hk hc
   exact ⟨x,r1,u.keep he r2,r3⟩
 ·obtain ⟨j,o,p1,rfl,rfl,p2,_⟩:=hin i o2 h1
  obtain ⟨j',o',p3,rfl,rfl,p4,_⟩:=hin i' o2' h2
  rw [hobk j o p1] at h3
  rw [hobk j' o' p3] at h4
  rw [h.sep j j' o o' b p2 p4 h3 h4]
 ·obtain ⟨j,o,p1,rfl,rfl,p2,_⟩:=hin i o2 h1
  rw [hobk j o p1] at h2
  exact h.mine j o b p2 h2
 ·have hno:τ i=none:=by
   refine List.find?_eq_none.2 fun j hj => ?_
   obtain ⟨p,hp,rfl⟩:=List.mem_map.1 hj
   simpa using y7z σ lo i h1 p hp
  exact ⟨by show (τ i).bind g.bl=none; rw [hno]; rfl,fun n=>by show (τ i).bind (fun j=>g.sv j n)=none; rw [hno]; rfl⟩
 ·obtain ⟨j,o,p1,rfl,p3,p2,_⟩:=hin i _ h1
  cases o with
  | row e' size' es' =>
   cases p3
   rw [gs j k p1]
   exact h.top j e size es p2 k hk
  | box _ _ _=>cases p3
  | opq _ _=>cases p3
  | rowA _ _ _ _=>cases p3

section
variable {P:Program} {X:Ctx} {Q:Exit→(Nat→Slot)→Own→Prop} {f:Nat→Slot} {own:Own} {c:Code}
structure Cv (Q:Exit→(Nat→Slot)→Own→Prop) (e:Exit) (f:Nat→Slot) (own:Own):Prop where
 ex:∃ f' own',(∀ (X:Ctx) (g:Gh) (a:Act) (w:World),Rel X f own g a w→∃ g',Rel X f' own' g' a w)∧Q e f' own'
theorem y40 (h:AWP P X c (Cv Q) f own):AWP P X c Q f own:=fun g a w hr=>wpIn_mono (h g a w hr) fun e a' w' ⟨f',own',g',h1,⟨f2,own2,h2,h3⟩⟩=>by
 obtain ⟨g2,h4⟩:=h2 _ _ _ _ h1
 exact ⟨f2,own2,g2,h4,h3⟩
theorem y4j {e:Exit} (h:Q e f own):Cv Q e f own:=⟨⟨f,own,fun _ g _ _ hr=>⟨g,hr⟩,h⟩⟩
theorem z7s {e:Exit} (σ:Nat→Nat) (lf:List (Nat×Slot)) (lo:List (Nat×AObj)) (hf:subF f lf) (ho:subO own lo) (hok:okL lf lo=true) (hnd:ndB ((lo.map (·.1)).map σ)=true)
  (h:Q e (frs (lf.map fun p=>(p.1,rnS σ p.2))) (ows (lo.map fun p=>(σ p.1,rnO σ p.2)))):Cv Q e f own:=
 ⟨⟨_,_,fun X g a w hr=>by
  obtain ⟨g1,h1⟩:=hr.less lf lo hf ho hok
  exact h1.ren σ lf lo hok hnd,h⟩⟩
theorem x06 (i j:Nat) {an:Option Nat} {t:TypeId} {cs:List Slot} {s:Slot} (s':Slot) (ho:own i=some (some (.box an t cs))) (hj:cs[j]?=some s) (hw:∀ (g:Gh) (w:World) (M:Blks) (v:Value),RepS g w M s v→RepS g w M s' v)
  (h:AWP P X c Q f (upl own [(i,some (some (.box an t (cs.set j s'))))])):AWP P X c Q f own:=by
 intro g a w hr
 obtain ⟨b,l,q1,q0,q2,q3,q4⟩:=hr.ob i _ ho
 have hst:=z0h (id:=i) (ob' := .box an t (cs.set j s')) (w':=w) hr (Gh.le_refl g) (fun i _=>⟨rfl,fun _=>rfl⟩) (.inl (Kp.refl _ _)) (fun b' hb' => .inr ⟨_,ho,hb'⟩) (fun e size es h=>by cases h) (fun M' he _=>⟨b,l,q1,q0,q2,by rw [List.length_set]; exact q3,fun k s0 hs=>by
  rw [List.getElem?_set] at hs
  split at hs
  ·rename_i hjk
   subst hjk
   split at hs
   ·cases hs
    obtain ⟨x,r1,r2,r3⟩:=q4 j s hj
    exact ⟨x,r1,hw _ _ _ _ (r2.keep he (Gh.le_refl g)),r3⟩
   ·cases hs
  ·obtain ⟨x,r1,r2,r3⟩:=q4 k s0 hs
   exact ⟨x,r1,r2.keep he (Gh.le_refl g),r3⟩⟩)
 exact h g a w hst.1
theorem x55 {g:Gh} {a:Act} {w:World} (i j id:Nat) (e:TypeId) (size:Nat) {an:Option Nat} {t:TypeId} {cs:List Slot} (hb:own i=some (some (.box an t cs))) (hj:cs[j]?=some (.dat vnil)) (ho:own id=none) (hs:Nat.blt 0 size=true)
  (hr:Rel X f own g a w) :
  ∃ g',Rel X f (upl (upl own [(id,some (some (.row e size [])))]) [(i,some (some (.box an t (cs.set j (.row id 0)))))]) g' a w:=by
 have hne:i≠id:=by rintro rfl; rw [hb] at ho; cases ho
 let g':Gh:=⟨g.bl,fun i k=>if i=id∧k=0 then some (.slice none 0 0) else g.sv i k⟩
 have hsv:g'.sv id 0=some (.slice none 0 0):=if_pos ⟨rfl,rfl⟩
 have hle:g.le g':=⟨fun _ _ h=>h,fun i k u hu=>by
  show (if i=id∧k=0 then _ else g.sv i k)=some u
  rw [if_neg]
  ·exact hu
  ·rintro ⟨rfl,rfl⟩
   rw [(hr.fresh i ho).2] at hu
   cases hu⟩
 obtain ⟨hr',he⟩:=z0h (id:=id) (ob' := .row e size []) (w':=w) hr hle (fun i hi=>⟨rfl,fun k=>if_neg fun h=>hi h.1⟩) (.inl (Kp.refl _ _)) (fun b hb=>by simp only [obk,List.length_nil,hsv,Option.bind_some] at hb; simp [Value.ownBlock] at hb) (fun e' s' es' he k hk=>by
  cases he
  show (if id=id∧k=0 then _ else g.sv id k)=none
  rw [if_neg (by simp at hk; omega)]
  exact (hr.fresh id ho).2 k) (fun M' he _=>⟨_,[],hsv,World.ownsRow_nil w 0 e size,by simpa [Nat.blt_eq] using hs,by simp,by simp⟩)
 have hb':upl own [(id,some (some (.row e size [])))] i=some (some (.box an t cs)):=by
  simp only [upl,qu hne,cond_false]; exact hb
 obtain ⟨b,l,q1,q0,q2,q3,q4⟩:=hr'.ob i _ hb'
 have hst:=z0h (id:=i) (ob' := .box an t (cs.set j (.row id 0))) (w':=w) hr' (Gh.le_refl g') (fun i _=>⟨rfl,fun _=>rfl⟩) (.inl (Kp.refl _ _)) (fun b' hb2 => .inr ⟨_,hb',hb2⟩) (fun e size es h=>by cases h) (fun M' he _=>⟨b,l,q1,q0,q2,by rw [List.length_set]; exact q3,fun k s0 hs=>by
  rw [List.getElem?_set] at hs
  split at hs
  ·rename_i hjk
   subst hjk
   split at hs
   ·cases hs
    obtain ⟨x,r1,r2,r3⟩:=q4 j _ hj
    have r2:x = .slice none 0 0:=r2
    refine ⟨x,r1,?_,r3⟩
    rw [r2]; exact hsv
   ·cases hs
  ·obtain ⟨x,r1,r2,r3⟩:=q4 k s0 hs
   exact ⟨x,r1,r2.keep he (Gh.le_refl g'),r3⟩⟩)
 exact ⟨g',hst.1⟩
theorem Zx (i j id:Nat) (e:TypeId) (size:Nat) {an:Option Nat} {t:TypeId} {cs:List Slot} (hb:own i=some (some (.box an t cs))) (hj:cs[j]?=some (.dat vnil)) (ho:own id=none) (hs:Nat.blt 0 size=true)
  (h:AWP P X c Q f (upl (upl own [(id,some (some (.row e size [])))]) [(i,some (some (.box an t (cs.set j (.row id 0)))))])):AWP P X c Q f own:=fun g a w hr=>by
 obtain ⟨g',h'⟩:=x55 i j id e size hb hj ho hs hr
 exact h g' a w h'
end
section
variable {P:Program} {f:Nat→Slot} {dst:Option Tmp} {ty:TypeId} {pos:String} {af:Array Edge} {gd:Option (Nat×Bool)}
theorem y6t {t t':TypeId} {x y:Operand} {ks:List TypeDesc} {r:Bool} (as1 bs:List Value) (ht:tyQ P t=some ks) (hx:evS f x = .dat (vagg (as1.map vval))) (hy:evS f y = .dat (vagg (bs.map vval))) (hr:eqVs ks as1 bs=some r):Stp P ⟨dst,.binOp .eql t x y t',ty,pos,af,gd⟩ f ⟨false,[],[],.dat (zn r)⟩:=
 ve fun X own g a w h=>by
  have h1:=h x (by simp [Op.operands])
  have h2:=h y (by simp [Op.operands])
  rw [hx] at h1
  rw [hy] at h2
  have h1:=y1m h1
  have h2:=y1m h2
  have hq:=y5u ht
  refine ⟨.bool r,?_,rfl⟩
  have h3:=y7g w 9998 as1.toArray bs.toArray _ 0 ks as1 bs r hq.2.2.2 hr (fun j v h=>by simpa using h) (fun j v h=>by simpa using h)
  have h4:=run_equalIn_struct w 9999 t as1.toArray bs.toArray hq.2.2.1 hq.1
  have h5:(binOp .eql t (.agg as1.toArray) (.agg bs.toArray)).run P w = .ok (.bool r) w:=by
   simp only [binOp,Op.equal,Sem.run_bind]
   rw [show Op.maxDepth=9999+1 from rfl,h4,h3]
   rfl
  simp only [execOp,h1,h2,Sem.run_bind,run_eqGuard_agg w _ t x y _ _ hq.2.1,Result.andThen_ok,h5,Sem.run_pure]
theorem y63 {ops:Array Oper} {own:Own} {lg:List (List Nat×List Nat)} {K:(Nat→Slot)→Own→List (List Nat×List Nat)→Prop} (h:K f own lg):seqA P ops [] f own lg K:=h
theorem Zo {op:Op} {s:Slot} {ops:Array Oper} {os:List Oper} {own:Own} {lg:List (List Nat×List Nat)} {K:(Nat→Slot)→Own→List (List Nat×List Nat)→Prop} {id id2:Nat} {q q' r:Option (Option AObj)} (hst:Stp P ⟨dst,op,ty,pos,af,none⟩ f ⟨false,[(id,q),(id2,r)],[(id,q')],s⟩) (hq:own id=q) (hr:own id2=r)
  (h:seqA P ops os (updS f dst s) (upl own [(id,q')]) (([id,id2],[id])::lg) K):seqA P ops (⟨dst,op,ty,pos,af,none⟩::os) f own lg K:=
 ⟨_,⟨rfl,fun _=>⟨hst,y3d hq hr⟩,fun h=>(by cases h),fun k hk=>(by simp [keys] at hk ⊢; omega)⟩,h⟩
theorem Zn {t:TypeId} {b0:Bool} {p x:Operand} {id off r n:Nat} {an:Option Nat} {bt e:TypeId} {size:Nat} {es:List (List V)} {cs:List Slot} (ht:tyS P t=some (b0,1)) (hp:evS f p = .ptr id off) (hx:evS f x = .row r n) (hn:n=es.length) (ho':Nat.blt off cs.length=true) :
  Stp P ⟨dst,.store t p x,ty,pos,af,gd⟩ f ⟨false,[(id,some (some (.box an bt cs))),(r,some (some (.row e size es)))],[(id,some (some (.box an bt (cs.set off (.row r n)))))],.any⟩:=by
 have ho1:off < cs.length:=by simpa [Nat.blt_eq] using ho'
 intro X f' own g a w Q hr hd hxo hrd K hK
 have ho:own id=some (some (.box an bt cs)):=hrd (id,some (some (.box an bt cs))) (by simp)
 have hor:own r=some (some (.row e size es)):=hrd (r,some (some (.row e size es))) (by simp)
 obtain ⟨b,l,q1,q0,q2,q3,q4⟩:=hr.ob id _ ho
 obtain ⟨v,xs,p1,p2,_⟩:=hr.ob r _ hor
 have h1:=hr.ev p
 rw [hxo p (by simp [Op.operands]),hp] at h1
 obtain ⟨b',h2,h3⟩:=h1
 rw [q1] at h2
 cases h2
 have h4:=hr.ev x
 rw [hxo x (by simp [Op.operands]),hx] at h4
 have h4:g.sv r n=some (a.eval x):=h4
 rw [hn,p1] at h4
 have h4:v=a.eval x:=Option.some.inj h4
 have hone:(a.eval x).oneCell'=true:=by
  rw [← h4]
  rcases p2.2 with ⟨rfl,_⟩ | ⟨_,_,_,rfl,_⟩ <;> rfl
 have hrun:=z9e (P:=P) ht w b off l bt (a.eval x) q2 (by omega) hone
 unfold Oper.wp
 have hex:(execOp a.eval ⟨dst,.store t p x,ty,pos,af,gd⟩).run P w = .ok .skip (w.setCell ⟨b,off,none⟩ (a.eval x)):=by
  simp only [execOp,h3,Sem.run_bind,hrun,Result.andThen_ok,Sem.run_pure]
 rw [hex]
 have hst:=z0h (id:=id) (ob' := .box an bt (cs.set off (.row r n))) (w':=w.setCell ⟨b,off,none⟩ (a.eval x)) hr (Gh.le_refl g) (fun i _=>⟨rfl,fun _=>rfl⟩) (.inr ⟨_,b,ho,q1,(Kp.refl _ _).set_ (.inl (by simp)) _⟩) (fun b' hb' => .inr ⟨_,ho,hb'⟩) (fun e size es h=>by cases h) (fun M' he _=>⟨b,l.set off (a.eval x),q1,q0,by
  have:=Blk.set_ (show Blk w b bt _ from q2) off (a.eval x)
  simpa [Blk] using this,by rw [List.length_set,List.length_set]; exact q3,fun j s hs=>by
  rw [List.getElem?_set] at hs
  split at hs
  ·rename_i hj
   subst hj
   cases hs
   refine ⟨a.eval x,by rw [List.getElem?_set]; simp; omega,?_,hone⟩
   show g.sv r n=_
   rw [hn,p1,h4]
  ·rename_i hj
   obtain ⟨y,r1,r2,r3⟩:=q4 j s hs
   exact ⟨y,by rw [List.getElem?_set,if_neg hj]; exact r1,r2.keep he (Gh.le_refl g),r3⟩⟩)
 exact hK g undef _ (hst.1.put dst .any undef hd trivial)
end
end Go.Proofs.YtgdijjmdfcgifaaGreat
namespace Go.Proofs.YtgdijjmdfcgifaaGreat
open Go.RowKit
abbrev cmpL:=Lib.compareBytes
theorem x0t:∀ a b:List UInt8,cmpL a b=-1∨cmpL a b=0∨cmpL a b=1
 | [],[] => .inr (.inl rfl)
 | [],_::_ => .inl rfl
 | _::_,[] => .inr (.inr rfl)
 | a::as1,b::bs=>by
  simp only [cmpL,Lib.compareBytes]
  split
  ·exact .inl rfl
  ·split
   ·exact .inr (.inr rfl)
   ·exact x0t as1 bs
theorem y4l:∀ a b:List UInt8,cmpL b a=- cmpL a b
 | [],[]=>rfl
 | [],_::_=>rfl
 | _::_,[]=>rfl
 | a::as1,b::bs=>by
  have ih:=y4l as1 bs
  simp only [cmpL,Lib.compareBytes] at ih ⊢
  by_cases h1:a < b
  ·have h2:¬ b < a:=by rw [UInt8.lt_iff_toNat_lt] at *; omega
   simp [h1,h2]
  ·by_cases h2:b < a
   ·simp [h1,h2]
   ·simp [h1,h2]; exact ih
theorem Zv:∀ a b:List UInt8,cmpL a b=0↔a=b
 | [],[]=>by simp [cmpL,Lib.compareBytes]
 | [],_::_=>by simp [cmpL,Lib.compareBytes]
 | _::_,[]=>by simp [cmpL,Lib.compareBytes]
 | a::as1,b::bs=>by
  have ih:=Zv as1 bs
  simp only [cmpL,Lib.compareBytes] at ih ⊢
  by_cases h1:a < b
  ·have h2:a≠b:=by rintro rfl; rw [UInt8.lt_iff_toNat_lt] at h1; omega
   simp [h1,h2]
  ·by_cases h2:b < a
   ·have h3:a≠b:=by rintro rfl; rw [UInt8.lt_iff_toNat_lt] at h2; omega
    simp [h1,h2,h3]
   ·have h3:a=b:=by
     rw [UInt8.lt_iff_toNat_lt] at h1 h2
     exact UInt8.toNat_inj.1 (by omega)
    subst h3
    rw [if_neg h1,if_neg h1,ih]
    simp
theorem z7t:∀ a b c:List UInt8,cmpL a b < 0→cmpL b c < 0→cmpL a c < 0
 | _,[],[],_,h=>by simp [cmpL,Lib.compareBytes] at h
 | [],[],_::_,h,_=>by simp [cmpL,Lib.compareBytes] at h
 | _::_,[],_,h,_=>by simp [cmpL,Lib.compareBytes] at h
 | [],_::_,[],_,h=>by simp [cmpL,Lib.compareBytes] at h
 | [],_::_,_::_,_,_=>by simp [cmpL,Lib.compareBytes]
 | _::_,_::_,[],_,h=>by simp [cmpL,Lib.compareBytes] at h
 | a::as1,b::bs,c::cs,h1,h2=>by
  have ih:=z7t as1 bs cs
  simp only [cmpL,Lib.compareBytes] at ih h1 h2 ⊢
  by_cases ab:a < b
  ·by_cases bc:b < c
   ·have ac:a < c:=by rw [UInt8.lt_iff_toNat_lt] at *; omega
    simp [ac]
   ·by_cases cb:c < b
    ·simp [bc,cb] at h2
    ·have ac:a < c:=by rw [UInt8.lt_iff_toNat_lt] at *; omega
     simp [ac]
  ·by_cases ba:b < a
   ·simp [ab,ba] at h1
   ·have e:a=b:=by
     rw [UInt8.lt_iff_toNat_lt] at ab ba
     exact UInt8.toNat_inj.1 (by omega)
    subst e
    simp [ab] at h1
    by_cases bc:a < c
    ·simp [bc]
    ·by_cases cb:c < a
     ·simp [bc,cb] at h2
     ·simp [bc,cb] at h2 ⊢
      exact ih h1 h2
theorem y3v:∀ a b:List UInt8,Op.bytesLess a b=decide (cmpL a b < 0)
 | [],[]=>by simp [Op.bytesLess,cmpL,Lib.compareBytes]
 | [],_::_=>by simp [Op.bytesLess,cmpL,Lib.compareBytes]
 | _::_,[]=>by simp [Op.bytesLess,cmpL,Lib.compareBytes]
 | a::as1,b::bs=>by
  have ih:=y3v as1 bs
  simp only [Op.bytesLess,cmpL,Lib.compareBytes] at ih ⊢
  by_cases h1:a < b
  ·simp [h1]
  ·by_cases h2:b < a
   ·have:a≠b:=by rintro rfl; exact h1 h2
    simp [h1,h2,this]
   ·have h3:a=b:=by
     rw [UInt8.lt_iff_toNat_lt] at h1 h2
     exact UInt8.toNat_inj.1 (by omega)
    subst h3
    simp [ih]
end Go.Proofs.YtgdijjmdfcgifaaGreat
namespace Go.Proofs.YtgdijjmdfcgifaaGreat
def z9x (a b:Bs):Option Int:=some (Lib.compareBytes a b)
def y3o (l:Bs) (c:Int):Option Int:=some (Lib.indexByte l c.toNat.toUInt8)
abbrev xor_ (k:IntKind) (m n:Int):Int:=k.wrap (BitVec.ofInt k.bits m ^^^ BitVec.ofInt k.bits n).toNat
abbrev shr_ (k:IntKind) (m n:Int):Int:=m.fdiv (2 ^ (min n.toNat k.bits))
end Go.Proofs.YtgdijjmdfcgifaaGreat
namespace Go.Proofs.YtgdijjmdfcgifaaGreat
open Go.RowKit
set_option linter.unusedVariables false

section
variable {P:Program} {f:Nat→Slot} {dst:Option Tmp} {ty:TypeId} {pos:String} {af:Array Edge} {gd:Option (Nat×Bool)}
end

section
variable {P:Program} {X:Ctx} {Q:Exit→(Nat→Slot)→Own→Prop} {own:Own} {f:Nat→Slot} {c:Code}
end
section
variable {P:Program} {f:Nat→Slot} {dst:Option Tmp} {ty t':TypeId} {pos:String} {af:Array Edge} {gd:Option (Nat×Bool)}
variable {α:Type} {C:α→List V} {xs ys:List α}
end

end Go.Proofs.YtgdijjmdfcgifaaGreat
namespace Go.Proofs.YtgdijjmdfcgifaaGreat
open Go.RowKit
set_option linter.unusedVariables false
end Go.Proofs.YtgdijjmdfcgifaaGreat
