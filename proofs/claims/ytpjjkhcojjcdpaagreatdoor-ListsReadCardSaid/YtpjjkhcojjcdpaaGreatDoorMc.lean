/- The abstract machine: operations that run or not by a truth value that is not known, without two ways; the call of a function with own objects, as a step. The abstract machine: elements of a row that came by pointer, typed; pointers as data. The abstract machine: bytes as a string. The abstract machine: rows under another name, heads of rows, rows that are lent. The abstract machine: tails of rows, and their clearing. The abstract machine: where ways meet own objects may get other names; rows within boxes; a cell that holds nil or its box's own address. The order of strings: compareBytes is a total order, and Go's own less agrees with it. Plain lemmas. Models of the library's functions that have contracts of the kit's shelf. No program. The abstract machine: appends of what may be empty; new empty slices; slices and nil; rows that the library's functions turn in place. No program. The library's slices.Grow of nil: a new row. No program. -/
import Derived.Test.YtpjjkhcojjcdpaaGreatDoorMb
import Derived.Laws.BytesArg
import Derived.Lib.SliceRun
import Derived.Test.YtpjjkhcojjcdpaaGreatDoorMa
import Derived.Lib.Bytealg
import Derived.Lib.IndexAny
import Derived.Lib.Repeat
import Derived.Lib.Strings
import Derived.Lib.SplitLaws
import Derived.Lib.SlicesCompact
import Derived.Lib.TrailingZeros
import Derived.Lib.Join
import Derived.Lib.Case
import Derived.Lib.ItoaNum
import Derived.Lib.IndexMore
import Derived.Lib.Replace
import Derived.Lib.Index
import Derived.Lib.Fold
import Derived.Lib.SlTrimSet
import Derived.Lib.LazyBuf
import Derived.Sort.Grow
import Derived.Shelf.Spec.SlicesGrow
namespace Go.Proofs.YtpjjkhcojjcdpaaGreatDoor
open Go.RowKit
set_option linter.unusedVariables false

def cnS (c:Bool) (s:Slot):Slot:=match c with
 | true=>s
 | false => .dat (vval undef)
theorem cnd {c:Bool} {s:Slot} (h:c=true):cnS c s=s:=by rw [h]; rfl
theorem bTT {b:Bool} (h:b=true):(b != true)=false:=by rw [h]; rfl
theorem bFF {b:Bool} (h:b=false):(b != false)=false:=by rw [h]; rfl
theorem un1 {b:Bool} (h:(b != true)=false):b=true:=by simpa using h
theorem un2 {b:Bool} (h:(b != true)=true):b=false:=by simpa using h
theorem un3 {b:Bool} (h:(b != false)=false):b=false:=by simpa using h
theorem un4 {b:Bool} (h:(b != false)=true):b=true:=by simpa using h
theorem u1 {α:Type} {b:Bool} {x y r:Option α} {G:Prop} (h:(b != true)=false) (H:(if b=true then x else y)=r) (k:b=true→x=r→G):G:=k (un1 h) (ift (un1 h) H)
theorem u2 {α:Type} {b:Bool} {x y r:Option α} {G:Prop} (h:(b != true)=true) (H:(if b=true then x else y)=r) (k:b=false→y=r→G):G:=k (un2 h) (iff_ (un2 h) H)
theorem u3 {α:Type} {b:Bool} {x y r:Option α} {G:Prop} (h:(b != false)=false) (H:(if b=true then x else y)=r) (k:b=false→y=r→G):G:=k (un3 h) (iff_ (un3 h) H)
theorem u4 {α:Type} {b:Bool} {x y r:Option α} {G:Prop} (h:(b != false)=true) (H:(if b=true then x else y)=r) (k:b=true→x=r→G):G:=k (un4 h) (ift (un4 h) H)
theorem andI {a b:Bool} (h:a=true) (h':b=true):(a && b)=true:=by rw [h,h']; rfl
theorem notI {a:Bool} (h:a=false):(!a)=true:=by rw [h]; rfl

def leL (a b:List Nat):Prop:=∀ x,x∈a→x∈b
def LgLe:List (List Nat×List Nat)→List (List Nat×List Nat)→Prop
 | [],[]=>True
 | a::l,b::l'=>(leL a.1 b.1∧leL a.2 b.2)∧LgLe l l'
 | _,_=>False
theorem LgLe.refl:∀ l,LgLe l l
 | []=>trivial
 | _::l=>⟨⟨fun _ h=>h,fun _ h=>h⟩,LgLe.refl l⟩
def z2l (K:(Nat→Slot)→Own→List (List Nat×List Nat)→Prop):Prop:=∀ f own lg lg',LgLe lg lg'→K f own lg'→K f own lg
theorem z7o {Q:(Nat→Slot)→Own→Prop}:z2l fun f own _=>Q f own:=fun _ _ _ _ _ h=>h
theorem z87 {P:Program} {ops:Array Oper} {K:(Nat→Slot)→Own→List (List Nat×List Nat)→Prop} (hK:z2l K):∀ (os:List Oper) (f:Nat→Slot) (own:Own) (lg lg':List (List Nat×List Nat)),LgLe lg lg'→seqA P ops os f own lg' K→seqA P ops os f own lg K
 | [],f,own,lg,lg',h,hs=>hK f own lg lg' h hs
 | o::os,f,own,lg,lg',h,hs=>by
  obtain ⟨T,h1,h2⟩:=hs
  exact ⟨T,h1,z87 hK os _ _ _ ((keys T.rd,keys T.wr)::lg') ⟨⟨fun _ h=>h,fun _ h=>h⟩,h⟩ h2⟩

section
variable {P:Program} {ops:Array Oper} {os:List Oper} {f:Nat→Slot} {own:Own} {lg:List (List Nat×List Nat)} {K:(Nat→Slot)→Own→List (List Nat×List Nat)→Prop}
variable {dst:Option Tmp} {op:Op} {ty:TypeId} {pos:String} {af:Array Edge} {s:Slot}
theorem z5v {j d:Nat} {want c:Bool} {v:Value} (h1:(ops[j]?).bind (·.dst)=some d) (h2:f d = .dat (vval v)) (h3:xm v want = !c) (hst:c=true→Stp P ⟨dst,op,ty,pos,af,some (j,want)⟩ f ⟨false,[],[],s⟩) (h:seqA P ops os (updS f dst (cnS c s)) own (([],[])::lg) K) :
  seqA P ops (⟨dst,op,ty,pos,af,some (j,want)⟩::os) f own lg K:=by
 cases c with
 | true=>exact ⟨⟨false,[],[],s⟩,⟨⟨d,v,h1,h2,h3.symm⟩,fun _=>⟨hst rfl,fun q hq=>(by cases hq)⟩,fun h=>(by cases h),fun k hk=>(by cases hk)⟩,h⟩
 | false=>exact ⟨⟨true,[],[],.dat (vval undef)⟩,⟨⟨d,v,h1,h2,h3.symm⟩,fun h=>(by cases h),fun _=>⟨rfl,rfl,rfl⟩,fun k hk=>(by cases hk)⟩,h⟩
theorem z85 (hA:z2l K) {j d:Nat} {want c:Bool} {v:Value} {id:Nat} {q:Option (Option AObj)} (h1:(ops[j]?).bind (·.dst)=some d) (h2:f d = .dat (vval v)) (h3:xm v want = !c) (hst:c=true→Stp P ⟨dst,op,ty,pos,af,some (j,want)⟩ f ⟨false,[(id,q)],[],s⟩) (hq:own id=q) (h:seqA P ops os (updS f dst (cnS c s)) own (([id],[])::lg) K) :
  seqA P ops (⟨dst,op,ty,pos,af,some (j,want)⟩::os) f own lg K:=by
 cases c with
 | true=>exact ⟨⟨false,[(id,q)],[],s⟩,⟨⟨d,v,h1,h2,h3.symm⟩,fun _=>⟨hst rfl,fun q' hq'=>(by simp only [List.mem_singleton] at hq'; subst hq'; exact hq)⟩,fun h=>(by cases h),fun k hk=>(by cases hk)⟩,h⟩
 | false=>exact ⟨⟨true,[],[],.dat (vval undef)⟩,⟨⟨d,v,h1,h2,h3.symm⟩,fun h=>(by cases h),fun _=>⟨rfl,rfl,rfl⟩,fun k hk=>(by cases hk)⟩,z87 hA os _ _ _ (([id],[])::lg) ⟨⟨fun x hx=>(nomatch hx),fun x hx=>(nomatch hx)⟩,LgLe.refl lg⟩ h⟩
section
variable {j d:Nat} {b:Bool}
theorem gsT:xm (.bool b) true = !b:=by cases b <;> rfl
theorem gsF:xm (.bool b) false = !(!b):=by cases b <;> rfl
theorem y8i {c b:Bool}:cnS c (.dat (zf b)) = .dat (vval (cond c (.bool b) undef)):=by cases c <;> rfl
theorem gcT {c b:Bool}:xm (cond c (.bool b) undef) true = !(c && b):=by cases c <;> cases b <;> rfl
theorem yx (h1:(ops[j]?).bind (·.dst)=some d) (h2:f d = .dat (zf b)) (hst:b=true→Stp P ⟨dst,op,ty,pos,af,some (j,true)⟩ f ⟨false,[],[],s⟩) (h:seqA P ops os (updS f dst (cnS b s)) own (([],[])::lg) K) :
  seqA P ops (⟨dst,op,ty,pos,af,some (j,true)⟩::os) f own lg K:=z5v h1 h2 gsT hst h
theorem yu (h1:(ops[j]?).bind (·.dst)=some d) (h2:f d = .dat (zf b)) (hst:(!b)=true→Stp P ⟨dst,op,ty,pos,af,some (j,false)⟩ f ⟨false,[],[],s⟩) (h:seqA P ops os (updS f dst (cnS (!b) s)) own (([],[])::lg) K) :
  seqA P ops (⟨dst,op,ty,pos,af,some (j,false)⟩::os) f own lg K:=z5v h1 h2 gsF hst h
theorem vo {c:Bool} (h1:(ops[j]?).bind (·.dst)=some d) (h2:f d=cnS c (.dat (zf b))) (hst:(c && b)=true→Stp P ⟨dst,op,ty,pos,af,some (j,true)⟩ f ⟨false,[],[],s⟩) (h:seqA P ops os (updS f dst (cnS (c && b) s)) own (([],[])::lg) K) :
  seqA P ops (⟨dst,op,ty,pos,af,some (j,true)⟩::os) f own lg K:=z5v h1 (h2.trans y8i) gcT hst h
variable {id:Nat} {q:Option (Option AObj)}
theorem y3s (h1:(ops[j]?).bind (·.dst)=some d) (h2:f d = .dat (zf b)) (hst:b=true→Stp P ⟨dst,op,ty,pos,af,some (j,true)⟩ f ⟨false,[(id,q)],[],s⟩) (hq:own id=q) (hA:z2l K) (h:seqA P ops os (updS f dst (cnS b s)) own (([id],[])::lg) K) :
  seqA P ops (⟨dst,op,ty,pos,af,some (j,true)⟩::os) f own lg K:=z85 hA h1 h2 gsT hst hq h
theorem z86 (h1:(ops[j]?).bind (·.dst)=some d) (h2:f d = .dat (zf b)) (hst:(!b)=true→Stp P ⟨dst,op,ty,pos,af,some (j,false)⟩ f ⟨false,[(id,q)],[],s⟩) (hq:own id=q) (hA:z2l K) (h:seqA P ops os (updS f dst (cnS (!b) s)) own (([id],[])::lg) K) :
  seqA P ops (⟨dst,op,ty,pos,af,some (j,false)⟩::os) f own lg K:=z85 hA h1 h2 gsF hst hq h
end
def z7q (own:Own):List (Nat×Option (Option AObj))→Prop
 | []=>True
 | (i,q)::l=>own i=q∧z7q own l
theorem y1r:∀ {l:List (Nat×Option (Option AObj))},z7q own l→∀ q,q∈l→own q.1=q.2
 | [],_,q,h=>by cases h
 | _::l,h,q,hq=>by
  rcases List.mem_cons.1 hq with rfl | hq
  ·exact h.1
  ·exact y1r h.2 q hq
def z7h (σ:Nat→Nat) (args:List Slot) (res:Slot) (L:List Ent) (nw:List (Nat×AObj)):Bool:=
 ndB (qs L nw) && ndB ((qs L nw).map σ) && L.all (fun e=>yo e.2.1 e.2.2.2) && nw.all (fun p=>newB p.2 && okQ (ows (qa L nw)) p.2) && (args.all (okS (ows (qr L))) && (qr L).all fun p=>okO (ows (qr L)) p.2) && (okT (ows (qa L nw)) res && (qa L nw).all fun p=>okP (ows (qa L nw)) p.2)
theorem z9f (σ:Nat→Nat) (L:List Ent) (nw:List (Nat×AObj)):keys (rdOf σ L nw)=(qs L nw).map σ:=by
 unfold keys rdOf qs
 simp only [List.map_append,List.map_map]
 rfl
theorem y3g {gd:Option (Nat×Bool)} {fn:Nat} {xs:List Operand} {ts:Array TypeId} {args:List Slot} {res:Slot} {σ:Nat→Nat} {L:List Ent} {nw:List (Nat×AObj)} (hF:FnG P fn args (qr L) res (qa L nw)) (ha:z2j f σ xs args) (hm:matL σ L) (hb:z7h σ args res L nw=true) :
  Stp P ⟨dst,.call { callee := .value (.func fn),args:=xs.toArray,argTypes:=ts },ty,pos,af,gd⟩ f ⟨false,rdOf σ L nw,wrOf σ L nw,rnS σ res⟩:=by
 unfold z7h at hb
 simp only [Bool.and_eq_true_iff] at hb
 obtain ⟨⟨⟨⟨⟨h1,h2⟩,h3⟩,h4⟩,h5⟩,h6⟩:=hb
 exact y3f σ L nw hF ha hm h1 h2 h3 h4 (by simp only [Bool.and_eq_true_iff]; exact h5) (by simp only [Bool.and_eq_true_iff]; exact h6)
theorem Zf {fn:Nat} {xs:List Operand} {ts:Array TypeId} {args:List Slot} {res:Slot} (σ:Nat→Nat) (L:List Ent) (nw:List (Nat×AObj)) (hF:FnG P fn args (qr L) res (qa L nw)) (hrd:z7q own (rdOf σ L nw)) (ha:z2j f σ xs args) (hm:matL σ L) (hb:z7h σ args res L nw=true)
  (h:seqA P ops os (updS f dst (rnS σ res)) (upl own (wrOf σ L nw)) (((qs L nw).map σ,(qs L nw).map σ)::lg) K) :
  seqA P ops (⟨dst,.call { callee := .value (.func fn),args:=xs.toArray,argTypes:=ts },ty,pos,af,none⟩::os) f own lg K:=
 ⟨⟨false,rdOf σ L nw,wrOf σ L nw,rnS σ res⟩,⟨rfl,fun _=>⟨y3g hF ha hm hb,y1r hrd⟩,fun h=>(by cases h),fun k hk=>by rw [z9f]; rw [z2m] at hk; exact hk⟩,by
  have e1:(keys (rdOf σ L nw),keys (wrOf σ L nw))=((qs L nw).map σ,(qs L nw).map σ):=by rw [z9f,z2m]
  show seqA P ops os _ _ ((keys (rdOf σ L nw),keys (wrOf σ L nw))::lg) K
  rw [e1]; exact h⟩
end
section
variable {P:Program} {f:Nat→Slot} {dst:Option Tmp} {ty:TypeId} {pos:String} {af:Array Edge} {gd:Option (Nat×Bool)}
theorem wc {c x y:Operand} {b p:Bool} (hc:evS f c = .dat (zf b)) (hx:b=true→evS f x = .dat (zf p)) (hy:evS f y = .dat (zf false)):Stp P ⟨dst,.pick c x y,ty,pos,af,gd⟩ f ⟨false,[],[],.dat (zf (b && p))⟩:=by
 cases b with
 | true=>exact zx hc rfl (hx rfl)
 | false=>exact zq hc rfl hy
theorem ww {c x y:Operand} {b q:Bool} (hc:evS f c = .dat (zf b)) (hx:evS f x = .dat (zf true)) (hy:b=false→evS f y = .dat (zf q)):Stp P ⟨dst,.pick c x y,ty,pos,af,gd⟩ f ⟨false,[],[],.dat (zf (b || q))⟩:=by
 cases b with
 | true=>exact zx hc rfl hx
 | false=>exact zq hc rfl (hy rfl)
end
end Go.Proofs.YtpjjkhcojjcdpaaGreatDoor
namespace Go.Proofs.YtpjjkhcojjcdpaaGreatDoor
open Go.RowKit
set_option linter.unusedVariables false
section
variable {P:Program} {f:Nat→Slot} {dst:Option Tmp} {ty:TypeId} {pos:String} {af:Array Edge} {gd:Option (Nat×Bool)}
variable {α:Type} {C:α→List V} {xs:List α}
end
end Go.Proofs.YtpjjkhcojjcdpaaGreatDoor
namespace Go.Proofs.YtpjjkhcojjcdpaaGreatDoor
open Go.RowKit
set_option linter.unusedVariables false
def strN (xs:List Int):Bs:=xs.map fun n=>UInt8.ofNat n.toNat
section
variable {P:Program} {f:Nat→Slot} {dst:Option Tmp} {ty:TypeId} {pos:String} {af:Array Edge} {gd:Option (Nat×Bool)}
theorem y2w (xs:List Int):strOfNums xs=⟨(strN xs).toArray⟩:=rfl
theorem z5m {s d e:TypeId} {x:Operand} {xs:List Int} {C:Int→List V} (hs:P.underlying s=some (.slice e)) (he:P.underlying e=some (.int .u8)) (hd:P.underlying d=some .string) (hC:∀ n,C n=[vval (.int .u8 n)]) (hx:evS f x = .dat (vlst (xs.map C))) :
  Stp P ⟨dst,.convert s d x,ty,pos,af,gd⟩ f ⟨false,[],[],.dat (vstr (strN xs))⟩:=
 qh fun X own g a w h=>by
  have h1:=h x (by simp [Op.operands])
  rw [hx] at h1
  obtain ⟨A,c,h2,h3,h4⟩:=h1
  refine ⟨.string ⟨(strN xs).toArray⟩,?_,rfl⟩
  simp only [List.length_map] at h2 h3
  suffices hk:(convert s d (a.eval x)).run P w = .ok (.string ⟨(strN xs).toArray⟩) w by simp [execOp,hk]
  rw [h2]
  by_cases hne:xs=[]
  ·subst hne
   cases A with
   | none=>exact run_convert_bytes_nil w s e hs he _ c d hd
   | some p =>
    have hl:(loadCells p 0).run P w = .ok (([]:List Int).map (Value.int .u8)).toArray w:=by
     have:=run_loadCells_list (P:=P) w p [] (fun j v hj=>by simp at hj)
     simpa using this
    rw [run_convert_bytes_string w s d e _ _ c hs he hd]
    show (Conv.bytesToString (.slice (some p) 0 c)).run P w=_
    rw [run_bytesToString w p 0 c [] hl,foldl_push_bytes]
    rfl
  ·obtain ⟨b,off,size,rfl,hM,arr,t,fz,h5,h6,h7⟩:=h4 (by simpa using hne)
   have hsz:size=1:=by
    cases hq:xs with
    | nil=>exact absurd hq hne
    | cons n l =>
     have:=h6 (C n) (by rw [hq]; simp)
     rw [hC] at this; simpa using this.symm
   subst hsz
   have hcell:∀ i,i < xs.length→w.cell? ⟨b,off+i,none⟩=some (.int .u8 (xs.getD i 0)):=fun i hi=>by
    obtain ⟨y,h8,h9,_⟩:=h7 i 0 (C xs[i]) (vval (.int .u8 xs[i])) (by rw [List.getElem?_map,List.getElem?_eq_getElem hi]; rfl) (by rw [hC]; rfl)
    have h9:y = .int .u8 xs[i]:=h9
    rw [cell_of_row w b _ _ _ _ h5]
    simp only [Nat.mul_one,Nat.add_zero] at h8
    rw [h8,h9,List.getD_eq_getElem?_getD,List.getElem?_eq_getElem hi]; rfl
   rw [run_convert_bytes_arg w s e hs he b off xs.length c xs rfl hcell d hd,y2w]
end
end Go.Proofs.YtpjjkhcojjcdpaaGreatDoor
namespace Go.Proofs.YtpjjkhcojjcdpaaGreatDoor
open Go.RowKit
set_option linter.unusedVariables false
section
variable {P:Program} {X:Ctx} {Q:Exit→(Nat→Slot)→Own→Prop} {f:Nat→Slot} {own:Own} {c:Code}
theorem z78 {β:Type} (f:Nat→β) (i j:Nat) (x y:β):upl f [(i,x),(j,y)] i=x:=by simp [upl]
theorem z77 {β:Type} (f:Nat→β) {i j:Nat} (h:j≠i) (x y:β):upl f [(i,x),(j,y)] j=y:=by simp [upl,yy h]
theorem z79 {β:Type} (f:Nat→β) {i j k:Nat} (h1:k≠i) (h2:k≠j) (x y:β):upl f [(i,x),(j,y)] k=f k:=by simp [upl,yy h1,yy h2]
end
section
variable {P:Program} {f:Nat→Slot} {dst:Option Tmp} {ty:TypeId} {pos:String} {af:Array Edge} {gd:Option (Nat×Bool)}
def cutV (m:Nat):Value→Value
 | .slice a _ cap => .slice a m cap
 | v=>v
theorem Rel.cut {X:Ctx} {f:Nat→Slot} {own:Own} {g:Gh} {a:Act} {w:World} (hr:Rel X f own g a w) (id id':Nat) {e:TypeId} {size:Nat} {es:List (List V)} (m:Nat) (hm:m≤es.length) (ho:own id=some (some (.row e size es))) (ho':own id'=none) :
  ∃ g' v,g.sv id es.length=some v∧g'.sv id' m=some (cutV m v)∧Rel X f (upl own [(id',some (some (.row e size (es.take m)))),(id,some none)]) g' a w:=by
 have hne:id≠id':=by rintro rfl; rw [ho] at ho'; cases ho'
 obtain ⟨v,xs,q1,q2,q3,q4,q5⟩:=hr.ob id _ ho
 have hml:(es.take m).length=m:=by rw [List.length_take]; omega
 let g':Gh:=⟨g.bl,fun i k=>if i=id'∧k=m then some (cutV m v) else g.sv i k⟩
 have hsv:g'.sv id' m=some (cutV m v):=if_pos ⟨rfl,rfl⟩
 have hle:g.le g':=⟨fun _ _ h=>h,fun i k u hu=>by
  show (if i=id'∧k=m then _ else g.sv i k)=some u
  rw [if_neg]
  ·exact hu
  ·rintro ⟨rfl,rfl⟩
   rw [(hr.fresh i ho').2] at hu
   cases hu⟩
 have hown:w.ownsRow 0 e size (cutV m v) m (xs.take (m * size)):=by
  refine ⟨by rw [List.length_take,q2.1]; exact Nat.min_eq_left (Nat.mul_le_mul_right size hm),?_⟩
  rcases q2.2 with ⟨r1,r2⟩ | ⟨b,cap,cur,r1,r3,hb,hnc,r4,hcs,htk⟩
  ·have:m=0:=by omega
   subst this
   exact .inl ⟨by rw [r1]; rfl,rfl⟩
  ·refine .inr ⟨b,cap,cur,by rw [r1]; rfl,r3,hb,by omega,r4,hcs,?_⟩
   rw [← htk,List.take_take,Nat.min_eq_left (Nat.mul_le_mul_right size hm)]
 have hbk:(cutV m v).ownBlock=v.ownBlock:=by
  cases v with
  | slice A n c=>cases A <;> rfl
  | _=>rfl
 have hcase:∀ i o,upl own [(id',some (some (.row e size (es.take m)))),(id,some none)] i=some (some o)→(i=id'∧o = .row e size (es.take m))∨(i≠id'∧i≠id∧own i=some (some o)):=fun i o h1=>by
  by_cases hi:i=id'
  ·subst hi; rw [z78] at h1; cases h1; exact .inl ⟨rfl,rfl⟩
  ·by_cases hj:i=id
   ·subst hj; rw [z77 own hne] at h1; cases h1
   ·rw [z79 own hi hj] at h1; exact .inr ⟨hi,hj,h1⟩
 have hobk':obk g' id' (.row e size (es.take m))=obk g id (.row e size es):=by simp only [obk,hml,hsv,q1,Option.bind_some,hbk]
 have hblk:∀ i o b,upl own [(id',some (some (.row e size (es.take m)))),(id,some none)] i=some (some o)→obk g' i o=some b→∃ i0 o0,own i0=some (some o0)∧obk g i0 o0=some b∧(i0=if i=id' then id else i):=fun i o b h1 h2=>by
  rcases hcase i o h1 with ⟨rfl,rfl⟩ | ⟨h3,h4,h5⟩
  ·exact ⟨id,_,ho,by rw [← hobk']; exact h2,by simp⟩
  ·refine ⟨i,o,h5,?_,by rw [if_neg h3]⟩
   rw [← (hr.ob i o h5).obk_eq hle]; exact h2
 have hM:∀ b,Mof X g' (upl own [(id',some (some (.row e size (es.take m)))),(id,some none)]) b→Mof X g own b:=fun b hb=>by
  rcases hb with hb | ⟨i,o,h1,h2⟩
  ·exact .inl hb
  ·obtain ⟨i0,o0,h3,h4,_⟩:=hblk i o b h1 h2
   exact .inr ⟨i0,o0,h3,h4⟩
 have he:Ext (Mof X g own) (Mof X g' (upl own [(id',some (some (.row e size (es.take m)))),(id,some none)])) w w:=⟨Nat.le_refl _,fun _ _ _ _=>rfl,fun b _ hb=>hM b hb⟩
 refine ⟨g',v,q1,hsv,hr.kp,hr.m0,hr.n,hr.df,fun t'=>(hr.fr t').keep he hle,fun i o h1 => ?_,fun i i' o o' b h1 h2 h3 h4 => ?_,fun i o b h1 h2 => ?_,fun i h1 => ?_,fun i e' s' es' h1 k hk => ?_⟩
 ·rcases hcase i o h1 with ⟨rfl,rfl⟩ | ⟨h3,h4,h5⟩
  ·refine ⟨cutV m v,xs.take (m * size),by rw [hml]; exact hsv,by rw [hml]; exact hown,q3,fun el hel=>q4 el (List.mem_of_mem_take hel),fun k c el u hk hc => ?_⟩
   rw [List.getElem?_take] at hk
   split at hk
   ·rename_i hkm
    obtain ⟨x,r1,r2,r3⟩:=q5 k c el u hk hc
    have hcl:=(List.getElem?_eq_some_iff.1 hc).1
    have hel:=q4 el (List.mem_of_getElem? hk)
    exact ⟨x,by rw [List.getElem?_take_of_lt (Wu hkm (by omega))]; exact r1,u.keep he r2,r3⟩
   ·cases hk
  ·exact (hr.ob i o h5).keep he hle (fun _ _=>rfl)
 ·obtain ⟨i0,o0,p1,p2,p3⟩:=hblk i o b h1 h3
  obtain ⟨i1,o1,p4,p5,p6⟩:=hblk i' o' b h2 h4
  have:=hr.sep i0 i1 o0 o1 b p1 p4 p2 p5
  rcases hcase i o h1 with ⟨r1,_⟩ | ⟨r1,r2,_⟩ <;> rcases hcase i' o' h2 with ⟨r3,_⟩ | ⟨r3,r4,_⟩
  ·rw [r1,r3]
  ·rw [if_pos r1] at p3; rw [if_neg r3] at p6; exact absurd (p6 ▸ this ▸ p3) r4
  ·rw [if_neg r1] at p3; rw [if_pos r3] at p6; exact absurd (p3.symm.trans (this.trans p6)) r2
  ·rw [if_neg r1] at p3; rw [if_neg r3] at p6; rw [← p3,← p6]; exact this
 ·obtain ⟨i0,o0,p1,p2,_⟩:=hblk i o b h1 h2
  exact hr.mine i0 o0 b p1 p2
 ·have hi:i≠id':=by rintro rfl; rw [z78] at h1; cases h1
  have hj:i≠id:=by rintro rfl; rw [z77 own hne] at h1; cases h1
  rw [z79 own hi hj] at h1
  exact ⟨(hr.fresh i h1).1,fun k=>by show (if i=id'∧k=m then _ else g.sv i k)=none; rw [if_neg (fun h=>hi h.1)]; exact (hr.fresh i h1).2 k⟩
 ·rcases hcase i _ h1 with ⟨rfl,h3⟩ | ⟨h3,h4,h5⟩
  ·cases h3
   rw [hml] at hk
   show (if i=i∧k=m then _ else g.sv i k)=none
   rw [if_neg (by omega)]
   exact (hr.fresh i ho').2 k
  ·show (if i=id'∧k=m then _ else g.sv i k)=none
   rw [if_neg (fun h=>h3 h.1)]
   exact hr.top i e' s' es' h5 k hk
theorem y3d (id':Nat) {t e e':TypeId} {n size:Nat} {x y:Operand} {id m N:Nat} {es:List (List V)} (ht:tyE P t=some (e,n)) (hx:evS f x = .row id N) (hN:N=es.length) (hy:evS f y = .dat (vint (m:Int))) (hm:m≤es.length) :
  Stp P ⟨dst,.slice t x none (some y) none,ty,pos,af,gd⟩ f ⟨false,[(id,some (some (.row e' size es))),(id',none)],[(id',some (some (.row e' size (es.take m)))),(id,some none)],.row id' m⟩:=by
 subst hN
 intro X f' own g a w Q hr hd hxx hrd K hK
 have ho:own id=some (some (.row e' size es)):=hrd (id,_) (by simp)
 have ho':own id'=none:=hrd (id',none) (by simp)
 obtain ⟨i,d1,d2,d3⟩:=z5a ht
 have h1:RepS g w (Mof X g own) (evS f x) (a.eval x):=by rw [← hxx x (by simp [Op.operands])]; exact hr.ev x
 have h2:RepS g w (Mof X g own) (evS f y) (a.eval y):=by rw [← hxx y (by simp [Op.operands])]; exact hr.ev y
 rw [hx] at h1
 have h1:g.sv id es.length=some (a.eval x):=h1
 have h2:=qw h2 hy
 obtain ⟨g',v,q1,q2,q3⟩:=hr.cut id id' m hm ho ho'
 rw [h1] at q1
 cases q1
 have hv:∃ A cap,a.eval x = .slice A es.length cap∧es.length≤cap:=by
  obtain ⟨v,xs,r1,r2,_⟩:=hr.ob id _ ho
  rw [h1] at r1
  cases r1
  rcases r2.2 with ⟨s1,s2⟩ | ⟨b,cap,cur,s1,_,_,s3,_⟩
  ·exact ⟨none,0,by rw [s1,s2],by omega⟩
  ·exact ⟨_,cap,s1,s3⟩
 obtain ⟨A,cap,hv,hc⟩:=hv
 have hrun:(execOp a.eval ⟨dst,.slice t x none (some y) none,ty,pos,af,gd⟩).run P w = .ok (.value (cutV m (a.eval x))) w:=by
  rw [hv]
  have hmc:m≤cap:=by omega
  simp_all [execOp,Instr.sliceAt,Instr.slice,Instr.sliceBounds,Instr.sliceBound,asIntOf,run_underlying d1,sizeOf,typeInfo,cutV]
  intro _
  cases A with
  | none=>rfl
  | some p=>simp [Addr.add]
 unfold Oper.wp
 rw [hrun]
 exact hK g' _ w (q3.put _ (.row id' m) _ hd q2)
end
end Go.Proofs.YtpjjkhcojjcdpaaGreatDoor
namespace Go.Proofs.YtpjjkhcojjcdpaaGreatDoor
open Go.RowKit
set_option linter.unusedVariables false
section
variable {P:Program} {f:Nat→Slot} {dst:Option Tmp} {ty:TypeId} {pos:String} {af:Array Edge} {gd:Option (Nat×Bool)}
section
variable {α:Type} {C:α→List V} {xs:List α}
theorem y8f {m:Int} (h:0≤m∧m≤(xs.length:Int)):m.toNat=(xs.take m.toNat).length:=by rw [List.length_take]; omega
theorem y2o (id':Nat) {t e e':TypeId} {n size:Nat} {x y:Operand} {id N:Nat} {m:Int} (ht:tyE P t=some (e,n)) (hx:evS f x = .row id N) (hN:N=xs.length) (hy:evS f y = .dat (vint m)) (hm:0≤m∧m≤(xs.length:Int)) :
  Stp P ⟨dst,.slice t x none (some y) none,ty,pos,af,gd⟩ f ⟨false,[(id,some (some (.row e' size (xs.map C)))),(id',none)],[(id',some (some (.row e' size ((xs.take m.toNat).map C)))),(id,some none)],.row id' m.toNat⟩:=by
 have h:=y3d (P:=P) (f:=f) (dst:=dst) (ty:=ty) (pos:=pos) (af:=af) (gd:=gd) id' (e':=e') (size:=size) (m:=m.toNat) (es:=xs.map C) ht hx (by rw [List.length_map]; exact hN) (by rw [hy]; congr 2; omega) (by rw [List.length_map]; omega)
 rw [← List.map_take] at h
 exact h
end
end
end Go.Proofs.YtpjjkhcojjcdpaaGreatDoor
namespace Go.Proofs.YtpjjkhcojjcdpaaGreatDoor
open Go.RowKit
set_option linter.unusedVariables false

theorem y0w (σ:Nat→Nat):∀ (l:List (Nat×Slot)) (t:Nat),frs (l.map fun p=>(p.1,rnS σ p.2)) t=rnS σ (frs l t)
 | [],t=>rfl
 | (k,s)::l,t=>by
  have ih:=y0w σ l t
  unfold frs at ih ⊢
  simp only [List.map_cons,upl]
  rw [ih]
  cases Nat.beq t k <;> rfl
theorem y0x {own:Own}:∀ (l:List (Nat×Slot)),l.all (fun p=>okS own p.2)=true→∀ t,okS own (frs l t)=true
 | [],_,t=>rfl
 | (k,s)::l,h,t=>by
  simp only [List.all_cons,Bool.and_eq_true] at h
  have ih:=y0x l h.2 t
  unfold frs at ih ⊢
  simp only [upl]
  cases Nat.beq t k
  ·exact ih
  ·exact h.1
theorem z9n (σ:Nat→Nat):∀ (l:List (Nat×AObj)) (i:Nat) (x:Option AObj),ows (l.map fun p=>(σ p.1,rnO σ p.2)) i=some x→∃ p,p∈l∧σ p.1=i∧x=some (rnO σ p.2)
 | [],i,x,h=>by cases h
 | (k,o)::l,i,x,h=>by
  unfold ows at h
  simp only [List.map_cons,upl] at h
  by_cases hk:i=σ k
  ·subst hk
   have:Nat.beq (σ k) (σ k)=true:=by simp
   simp only [this,cond_true] at h
   cases h
   exact ⟨(k,o),by simp,rfl,rfl⟩
  ·simp only [yy hk,cond_false] at h
   obtain ⟨p,h1,h2⟩:=z9n σ l i x h
   exact ⟨p,List.mem_cons_of_mem _ h1,h2⟩
theorem z9m (σ:Nat→Nat):∀ (l:List (Nat×AObj)) (i:Nat),ows (l.map fun p=>(σ p.1,rnO σ p.2)) i=none→∀ p,p∈l→σ p.1≠i
 | [],i,h,p,hp=>by cases hp
 | (k,o)::l,i,h,p,hp=>by
  unfold ows at h
  simp only [List.map_cons,upl] at h
  by_cases hk:i=σ k
  ·subst hk
   have:Nat.beq (σ k) (σ k)=true:=by simp
   simp only [this,cond_true] at h
   cases h
  ·simp only [yy hk,cond_false] at h
   rcases List.mem_cons.1 hp with rfl | hp
   ·exact fun h=>hk h.symm
   ·exact z9m σ l i h p hp
theorem z9o:∀ (l:List (Nat×AObj)),(l.map (·.1)).Nodup→∀ p,p∈l→ows l p.1=some (some p.2)
 | [],_,p,hp=>by cases hp
 | (k,o)::l,hn,p,hp=>by
  unfold ows
  simp only [List.map_cons,upl]
  rw [List.map_cons,List.nodup_cons] at hn
  rcases List.mem_cons.1 hp with rfl | hp
  ·have:Nat.beq k k=true:=by simp
   simp only [this,cond_true]
  ·have hk:p.1≠k:=fun h=>hn.1 (by rw [← h]; exact List.mem_map.2 ⟨p,hp,rfl⟩)
   simp only [yy hk,cond_false]
   exact z9o l hn.2 p hp
theorem Rel.ren {X:Ctx} {g:Gh} {a:Act} {w:World} (σ:Nat→Nat) (lf:List (Nat×Slot)) (lo:List (Nat×AObj)) (hok:okL lf lo=true) (hnd:ndB ((lo.map (·.1)).map σ)=true) (h:Rel X (frs lf) (ows lo) g a w) :
  ∃ g',Rel X (frs (lf.map fun p=>(p.1,rnS σ p.2))) (ows (lo.map fun p=>(σ p.1,rnO σ p.2))) g' a w:=by
 classical
 simp only [okL,Bool.and_eq_true] at hok
 have nd:=z3f hnd
 have ndp:(lo.map (·.1)).Pairwise fun a b=>σ a≠σ b:=List.pairwise_map.1 nd
 have nd0:(lo.map (·.1)).Nodup:=ndp.imp fun {a b} h e=>h (congrArg σ e)
 have hinj:∀ i j,i∈lo.map (·.1)→j∈lo.map (·.1)→σ i=σ j→i=j:=fun i j hi hj hs=>by
  obtain ⟨m,hm,rfl⟩:=List.getElem_of_mem hi
  obtain ⟨n,hn,rfl⟩:=List.getElem_of_mem hj
  have hp:=List.pairwise_iff_getElem.1 ndp
  rcases Nat.lt_trichotomy m n with h1 | h1 | h1
  ·exact absurd hs (hp m n hm hn h1)
  ·subst h1; rfl
  ·exact absurd hs.symm (hp n m hn hm h1)
 let τ:Nat→Option Nat:=fun i=>(lo.map (·.1)).find? fun j=>σ j == i
 have hτ:∀ j,j∈lo.map (·.1)→τ (σ j)=some j:=fun j hj=>by
  cases hq:τ (σ j) with
  | none =>
   have:=List.find?_eq_none.1 hq j hj
   simp at this
  | some k =>
   have h1:=List.find?_some hq
   have h2:=List.mem_of_find?_eq_some hq
   rw [hinj k j h2 hj (by simpa using h1)]
 let g':Gh:=⟨fun i=>(τ i).bind g.bl,fun i n=>(τ i).bind fun j=>g.sv j n⟩
 have gb:∀ j,j∈lo.map (·.1)→g'.bl (σ j)=g.bl j:=fun j hj=>by show (τ (σ j)).bind g.bl=_; rw [hτ j hj]; rfl
 have gs:∀ j n,j∈lo.map (·.1)→g'.sv (σ j) n=g.sv j n:=fun j n hj=>by show (τ (σ j)).bind (fun j=>g.sv j n)=_; rw [hτ j hj]; rfl
 have hlive:∀ j,wk (ows lo) j=true→j∈lo.map (·.1):=fun j hj=>by
  obtain ⟨o,ho⟩:=jt hj
  have e1:ows (lo.map fun p=>((fun i=>i) p.1,p.2)) j=some (some o):=by
   have:(lo.map fun p=>((fun i=>i) p.1,p.2))=lo:=by simp
   rw [this]; exact ho
  have:∀ (l:List (Nat×AObj)),ows l j=some (some o)→j∈l.map (·.1):=by
   intro l
   induction l with
   | nil=>intro h; cases h
   | cons p l ih =>
    intro h
    unfold ows at h
    simp only [List.map_cons,upl] at h
    by_cases hk:j=p.1
    ·rw [hk]; simp
    ·simp only [yy hk,cond_false] at h
     exact List.mem_cons_of_mem _ (ih h)
  exact this lo ho
 have hobk:∀ j o,j∈lo.map (·.1)→obk g' (σ j) (rnO σ o)=obk g j o:=fun j o hj=>by
  cases o with
  | box an t cs=>exact gb j hj
  | row e size es=>simp only [rnO,obk,gs j _ hj]
  | opq an R=>exact gb j hj
  | rowA v e size es=>rfl
 have hin:∀ i o2,ows (lo.map fun p=>(σ p.1,rnO σ p.2)) i=some (some o2)→∃ j o,j∈lo.map (·.1)∧σ j=i∧o2=rnO σ o∧ows lo j=some (some o)∧(j,o)∈lo:=fun i o2 h1=>by
  obtain ⟨p,h2,h3,h4⟩:=z9n σ lo i _ h1
  cases h4
  exact ⟨p.1,p.2,List.mem_map_of_mem h2,h3,rfl,z9o lo nd0 p h2,h2⟩
 have hM:∀ b,Mof X g' (ows (lo.map fun p=>(σ p.1,rnO σ p.2))) b→Mof X g (ows lo) b:=fun b hb=>by
  rcases hb with hb | ⟨i,o2,h1,h2⟩
  ·exact .inl hb
  ·obtain ⟨j,o,h3,rfl,rfl,h4,_⟩:=hin i o2 h1
   rw [hobk j o h3] at h2
   exact .inr ⟨j,o,h4,h2⟩
 have he:Ext (Mof X g (ows lo)) (Mof X g' (ows (lo.map fun p=>(σ p.1,rnO σ p.2)))) w w:=⟨Nat.le_refl _,fun _ _ _ _=>rfl,fun b _ hb=>hM b hb⟩
 have hS:∀ s v,okS (ows lo) s=true→RepS g w (Mof X g (ows lo)) s v→RepS g' w (Mof X g' (ows (lo.map fun p=>(σ p.1,rnO σ p.2)))) (rnS σ s) v:=fun s v hs hv=>by
  cases s with
  | any=>trivial
  | dat u=>exact u.keep he hv
  | ptr id off=>obtain ⟨b,h1,h2⟩:=hv; exact ⟨b,(gb id (hlive id hs)).trans h1,h2⟩
  | row id n=>exact (gs id n (hlive id hs)).trans hv
  | rptr id n size k c=>obtain ⟨b,cap,h1,h2⟩:=hv; exact ⟨b,cap,(gs id n (hlive id hs)).trans h1,h2⟩
  | mp id=>obtain ⟨b,h1,h2⟩:=hv; exact ⟨b,(gb id (hlive id hs)).trans h1,h2⟩
  | rsub id n size k=>obtain ⟨b,cap,h1,h2⟩:=hv; exact ⟨b,cap,(gs id n (hlive id hs)).trans h1,h2⟩
  | nptr id =>
   rcases hv with hv | ⟨b,h1,h2⟩
   ·exact .inl hv
   ·exact .inr ⟨b,(gb id (hlive id hs)).trans h1,h2⟩
  | dr id u=>obtain ⟨b,h1,h2⟩:=hv; exact ⟨b,(gb id (hlive id hs)).trans h1,(u b).keep he h2⟩
  | comp tup cs =>
   refine vm.map (rnC σ) hv fun c x hc hx => ?_
   have hs':okC (ows lo) c=true:=(List.all_eq_true.1 hs) c hc
   cases c with
   | dat u=>exact u.keep he hx
   | ptr id off=>obtain ⟨b,h1,h2⟩:=hx; exact ⟨b,(gb id (hlive id hs')).trans h1,h2⟩
   | row id n=>exact (gs id n (hlive id hs')).trans hx
   | mp id=>obtain ⟨b,h1,h2⟩:=hx; exact ⟨b,(gb id (hlive id hs')).trans h1,h2⟩
 refine ⟨g',h.kp,h.m0,h.n,h.df,fun t => ?_,fun i o2 h1 => ?_,fun i i' o2 o2' b h1 h2 h3 h4 => ?_,fun i o2 b h1 h2 => ?_,fun i h1 => ?_,fun i e size es h1 k hk => ?_⟩
 ·rw [y0w]
  exact hS _ _ (y0x lf hok.1 t) (h.fr t)
 ·obtain ⟨j,o,h2,rfl,rfl,h3,h4⟩:=hin i o2 h1
  have h5:=h.ob j o h3
  have h6:=(List.all_eq_true.1 hok.2) (j,o) h4
  cases o with
  | box an t cs =>
   obtain ⟨b,l,q1,q0,q2,q3,q4⟩:=h5
   refine ⟨b,l,(gb j h2).trans q1,q0,q2,by rw [List.length_map]; exact q3,fun k s hs => ?_⟩
   rw [List.getElem?_map] at hs
   cases hq:cs[k]? with
   | none=>rw [hq] at hs; cases hs
   | some s0 =>
    rw [hq] at hs
    cases hs
    obtain ⟨x,r1,r2,r3⟩:=q4 k s0 hq
    exact ⟨x,r1,hS _ _ ((List.all_eq_true.1 h6) s0 (List.mem_of_getElem? hq)) r2,r3⟩
  | row e size es =>
   obtain ⟨v,xs,q1,q2,q3,q4,q5⟩:=h5
   refine ⟨v,xs,(gs j _ h2).trans q1,q2,q3,q4,fun k c el u hk hc => ?_⟩
   obtain ⟨x,r1,r2,r3⟩:=q5 k c el u hk hc
   exact ⟨x,r1,u.keep he r2,r3⟩
  | opq an R =>
   obtain ⟨b,o,q1,q0,q2,q3⟩:=h5
   exact ⟨b,o,(gb j h2).trans q1,q0,q2,q3⟩
  | rowA v e size es =>
   obtain ⟨xs,q1,q2,q3,q4,q5⟩:=h5
   refine ⟨xs,(gs j _ h2).trans q1,q2,q3,q4,fun k c el u hk hc => ?_⟩
   obtain ⟨x,r1,r2,r3⟩:=q5 k c el u hk hc
   exact ⟨x,r1,u.keep he r2,r3⟩
 ·obtain ⟨j,o,p1,rfl,rfl,p2,_⟩:=hin i o2 h1
  obtain ⟨j',o',p3,rfl,rfl,p4,_⟩:=hin i' o2' h2
  rw [hobk j o p1] at h3
  rw [hobk j' o' p3] at h4
  rw [h.sep j j' o o' b p2 p4 h3 h4]
 ·obtain ⟨j,o,p1,rfl,rfl,p2,_⟩:=hin i o2 h1
  rw [hobk j o p1] at h2
  exact h.mine j o b p2 h2
 ·have hno:τ i=none:=by
   refine List.find?_eq_none.2 fun j hj => ?_
   obtain ⟨p,hp,rfl⟩:=List.mem_map.1 hj
   simpa using z9m σ lo i h1 p hp
  exact ⟨by show (τ i).bind g.bl=none; rw [hno]; rfl,fun n=>by show (τ i).bind (fun j=>g.sv j n)=none; rw [hno]; rfl⟩
 ·obtain ⟨j,o,p1,rfl,p3,p2,_⟩:=hin i _ h1
  cases o with
  | row e' size' es' =>
   cases p3
   rw [gs j k p1]
   exact h.top j e size es p2 k hk
  | box _ _ _=>cases p3
  | opq _ _=>cases p3
  | rowA _ _ _ _=>cases p3

section
variable {P:Program} {X:Ctx} {Q:Exit→(Nat→Slot)→Own→Prop} {f:Nat→Slot} {own:Own} {c:Code}
structure Cv (Q:Exit→(Nat→Slot)→Own→Prop) (e:Exit) (f:Nat→Slot) (own:Own):Prop where
 ex:∃ f' own',(∀ (X:Ctx) (g:Gh) (a:Act) (w:World),Rel X f own g a w→∃ g',Rel X f' own' g' a w)∧Q e f' own'
theorem wd (h:AWP P X c (Cv Q) f own):AWP P X c Q f own:=fun g a w hr=>wpIn_mono (h g a w hr) fun e a' w' ⟨f',own',g',h1,⟨f2,own2,h2,h3⟩⟩=>by
 obtain ⟨g2,h4⟩:=h2 _ _ _ _ h1
 exact ⟨f2,own2,g2,h4,h3⟩
theorem qu {e:Exit} (h:Q e f own):Cv Q e f own:=⟨⟨f,own,fun _ g _ _ hr=>⟨g,hr⟩,h⟩⟩
theorem wn {e:Exit} (σ:Nat→Nat) (lf:List (Nat×Slot)) (lo:List (Nat×AObj)) (hf:subF f lf) (ho:subO own lo) (hok:okL lf lo=true) (hnd:ndB ((lo.map (·.1)).map σ)=true)
  (h:Q e (frs (lf.map fun p=>(p.1,rnS σ p.2))) (ows (lo.map fun p=>(σ p.1,rnO σ p.2)))):Cv Q e f own:=
 ⟨⟨_,_,fun X g a w hr=>by
  obtain ⟨g1,h1⟩:=hr.less lf lo hf ho hok
  exact h1.ren σ lf lo hok hnd,h⟩⟩
theorem y81 (i j:Nat) {an:Option Nat} {t:TypeId} {cs:List Slot} {s:Slot} (s':Slot) (ho:own i=some (some (.box an t cs))) (hj:cs[j]?=some s) (hw:∀ (g:Gh) (w:World) (M:Blks) (v:Value),RepS g w M s v→RepS g w M s' v)
  (h:AWP P X c Q f (upl own [(i,some (some (.box an t (cs.set j s'))))])):AWP P X c Q f own:=by
 intro g a w hr
 obtain ⟨b,l,q1,q0,q2,q3,q4⟩:=hr.ob i _ ho
 have hst:=jz (id:=i) (ob' := .box an t (cs.set j s')) (w':=w) hr (Gh.le_refl g) (fun i _=>⟨rfl,fun _=>rfl⟩) (.inl (Kp.refl _ _)) (fun b' hb' => .inr ⟨_,ho,hb'⟩) (fun e size es h=>by cases h) (fun M' he _=>⟨b,l,q1,q0,q2,by rw [List.length_set]; exact q3,fun k s0 hs=>by
  rw [List.getElem?_set] at hs
  split at hs
  ·rename_i hjk
   subst hjk
   split at hs
   ·cases hs
    obtain ⟨x,r1,r2,r3⟩:=q4 j s hj
    exact ⟨x,r1,hw _ _ _ _ (r2.keep he (Gh.le_refl g)),r3⟩
   ·cases hs
  ·obtain ⟨x,r1,r2,r3⟩:=q4 k s0 hs
   exact ⟨x,r1,r2.keep he (Gh.le_refl g),r3⟩⟩)
 exact h g a w hst.1
theorem y48 {i:Nat} (g:Gh) (w:World) (M:Blks) (v:Value) (h:RepS g w M (.dat (vval (.pointer none))) v):RepS g w M (.nptr i) v := .inl h
theorem y4i {g:Gh} {a:Act} {w:World} (i j id:Nat) (e:TypeId) (size:Nat) {an:Option Nat} {t:TypeId} {cs:List Slot} (hb:own i=some (some (.box an t cs))) (hj:cs[j]?=some (.dat vnil)) (ho:own id=none) (hs:Nat.blt 0 size=true)
  (hr:Rel X f own g a w) :
  ∃ g',Rel X f (upl (upl own [(id,some (some (.row e size [])))]) [(i,some (some (.box an t (cs.set j (.row id 0)))))]) g' a w:=by
 have hne:i≠id:=by rintro rfl; rw [hb] at ho; cases ho
 let g':Gh:=⟨g.bl,fun i k=>if i=id∧k=0 then some (.slice none 0 0) else g.sv i k⟩
 have hsv:g'.sv id 0=some (.slice none 0 0):=if_pos ⟨rfl,rfl⟩
 have hle:g.le g':=⟨fun _ _ h=>h,fun i k u hu=>by
  show (if i=id∧k=0 then _ else g.sv i k)=some u
  rw [if_neg]
  ·exact hu
  ·rintro ⟨rfl,rfl⟩
   rw [(hr.fresh i ho).2] at hu
   cases hu⟩
 obtain ⟨hr',he⟩:=jz (id:=id) (ob' := .row e size []) (w':=w) hr hle (fun i hi=>⟨rfl,fun k=>if_neg fun h=>hi h.1⟩) (.inl (Kp.refl _ _)) (fun b hb=>by simp only [obk,List.length_nil,hsv,Option.bind_some] at hb; simp [Value.ownBlock] at hb) (fun e' s' es' he k hk=>by
  cases he
  show (if id=id∧k=0 then _ else g.sv id k)=none
  rw [if_neg (by simp at hk; omega)]
  exact (hr.fresh id ho).2 k) (fun M' he _=>⟨_,[],hsv,World.ownsRow_nil w 0 e size,by simpa [Nat.blt_eq] using hs,by simp,by simp⟩)
 have hb':upl own [(id,some (some (.row e size [])))] i=some (some (.box an t cs)):=by
  simp only [upl,yy hne,cond_false]; exact hb
 obtain ⟨b,l,q1,q0,q2,q3,q4⟩:=hr'.ob i _ hb'
 have hst:=jz (id:=i) (ob' := .box an t (cs.set j (.row id 0))) (w':=w) hr' (Gh.le_refl g') (fun i _=>⟨rfl,fun _=>rfl⟩) (.inl (Kp.refl _ _)) (fun b' hb2 => .inr ⟨_,hb',hb2⟩) (fun e size es h=>by cases h) (fun M' he _=>⟨b,l,q1,q0,q2,by rw [List.length_set]; exact q3,fun k s0 hs=>by
  rw [List.getElem?_set] at hs
  split at hs
  ·rename_i hjk
   subst hjk
   split at hs
   ·cases hs
    obtain ⟨x,r1,r2,r3⟩:=q4 j _ hj
    have r2:x = .slice none 0 0:=r2
    refine ⟨x,r1,?_,r3⟩
    rw [r2]; exact hsv
   ·cases hs
  ·obtain ⟨x,r1,r2,r3⟩:=q4 k s0 hs
   exact ⟨x,r1,r2.keep he (Gh.le_refl g'),r3⟩⟩)
 exact ⟨g',hst.1⟩
theorem z42 (i j id:Nat) (e:TypeId) (size:Nat) {an:Option Nat} {t:TypeId} {cs:List Slot} (hb:own i=some (some (.box an t cs))) (hj:cs[j]?=some (.dat vnil)) (ho:own id=none) (hs:Nat.blt 0 size=true)
  (h:AWP P X c Q f (upl (upl own [(id,some (some (.row e size [])))]) [(i,some (some (.box an t (cs.set j (.row id 0)))))])):AWP P X c Q f own:=fun g a w hr=>by
 obtain ⟨g',h'⟩:=y4i i j id e size hb hj ho hs hr
 exact h g' a w h'
end
section
variable {P:Program} {f:Nat→Slot} {dst:Option Tmp} {ty:TypeId} {pos:String} {af:Array Edge} {gd:Option (Nat×Bool)}
theorem wg {ops:Array Oper} {own:Own} {lg:List (List Nat×List Nat)} {K:(Nat→Slot)→Own→List (List Nat×List Nat)→Prop} (h:K f own lg):seqA P ops [] f own lg K:=h
theorem z0x {op:Op} {s:Slot} {ops:Array Oper} {os:List Oper} {own:Own} {lg:List (List Nat×List Nat)} {K:(Nat→Slot)→Own→List (List Nat×List Nat)→Prop} {id id2:Nat} {q q' r:Option (Option AObj)} (hst:Stp P ⟨dst,op,ty,pos,af,none⟩ f ⟨false,[(id,q),(id2,r)],[(id,q')],s⟩) (hq:own id=q) (hr:own id2=r)
  (h:seqA P ops os (updS f dst s) (upl own [(id,q')]) (([id,id2],[id])::lg) K):seqA P ops (⟨dst,op,ty,pos,af,none⟩::os) f own lg K:=
 ⟨_,⟨rfl,fun _=>⟨hst,z52 hq hr⟩,fun h=>(by cases h),fun k hk=>(by simp [keys] at hk ⊢; omega)⟩,h⟩
theorem z0t {t:TypeId} {b0:Bool} {p x:Operand} {id off r n:Nat} {an:Option Nat} {bt e:TypeId} {size:Nat} {es:List (List V)} {cs:List Slot} (ht:tyS P t=some (b0,1)) (hp:evS f p = .ptr id off) (hx:evS f x = .row r n) (hn:n=es.length) (ho':Nat.blt off cs.length=true) :
  Stp P ⟨dst,.store t p x,ty,pos,af,gd⟩ f ⟨false,[(id,some (some (.box an bt cs))),(r,some (some (.row e size es)))],[(id,some (some (.box an bt (cs.set off (.row r n)))))],.any⟩:=by
 have ho1:off < cs.length:=by simpa [Nat.blt_eq] using ho'
 intro X f' own g a w Q hr hd hxo hrd K hK
 have ho:own id=some (some (.box an bt cs)):=hrd (id,some (some (.box an bt cs))) (by simp)
 have hor:own r=some (some (.row e size es)):=hrd (r,some (some (.row e size es))) (by simp)
 obtain ⟨b,l,q1,q0,q2,q3,q4⟩:=hr.ob id _ ho
 obtain ⟨v,xs,p1,p2,_⟩:=hr.ob r _ hor
 have h1:=hr.ev p
 rw [hxo p (by simp [Op.operands]),hp] at h1
 obtain ⟨b',h2,h3⟩:=h1
 rw [q1] at h2
 cases h2
 have h4:=hr.ev x
 rw [hxo x (by simp [Op.operands]),hx] at h4
 have h4:g.sv r n=some (a.eval x):=h4
 rw [hn,p1] at h4
 have h4:v=a.eval x:=Option.some.inj h4
 have hone:(a.eval x).oneCell'=true:=by
  rw [← h4]
  rcases p2.2 with ⟨rfl,_⟩ | ⟨_,_,_,rfl,_⟩ <;> rfl
 have hrun:=z3a (P:=P) ht w b off l bt (a.eval x) q2 (by omega) hone
 unfold Oper.wp
 have hex:(execOp a.eval ⟨dst,.store t p x,ty,pos,af,gd⟩).run P w = .ok .skip (w.setCell ⟨b,off,none⟩ (a.eval x)):=by
  simp only [execOp,h3,Sem.run_bind,hrun,Result.andThen_ok,Sem.run_pure]
 rw [hex]
 have hst:=jz (id:=id) (ob' := .box an bt (cs.set off (.row r n))) (w':=w.setCell ⟨b,off,none⟩ (a.eval x)) hr (Gh.le_refl g) (fun i _=>⟨rfl,fun _=>rfl⟩) (.inr ⟨_,b,ho,q1,(Kp.refl _ _).set_ (.inl (by simp)) _⟩) (fun b' hb' => .inr ⟨_,ho,hb'⟩) (fun e size es h=>by cases h) (fun M' he _=>⟨b,l.set off (a.eval x),q1,q0,by
  have:=Blk.set_ (show Blk w b bt _ from q2) off (a.eval x)
  simpa [Blk] using this,by rw [List.length_set,List.length_set]; exact q3,fun j s hs=>by
  rw [List.getElem?_set] at hs
  split at hs
  ·rename_i hj
   subst hj
   cases hs
   refine ⟨a.eval x,by rw [List.getElem?_set]; simp; omega,?_,hone⟩
   show g.sv r n=_
   rw [hn,p1,h4]
  ·rename_i hj
   obtain ⟨y,r1,r2,r3⟩:=q4 j s hs
   exact ⟨y,by rw [List.getElem?_set,if_neg hj]; exact r1,r2.keep he (Gh.le_refl g),r3⟩⟩)
 exact hK g undef _ (hst.1.put dst .any undef hd trivial)
end
end Go.Proofs.YtpjjkhcojjcdpaaGreatDoor
namespace Go.Proofs.YtpjjkhcojjcdpaaGreatDoor
open Go.RowKit
end Go.Proofs.YtpjjkhcojjcdpaaGreatDoor
namespace Go.Proofs.YtpjjkhcojjcdpaaGreatDoor
def z06 (l:Bs) (c:Int):Option Int:=some (Lib.indexByte l c.toNat.toUInt8)
def kn (s sep:Bs):List Bs:=(Lib.splitB ⟨sep.toArray⟩ 0 (Lib.countB ⟨s.toArray⟩ ⟨sep.toArray⟩) ⟨s.toArray⟩).map fun b=>b.data.toList
def Zu (s sep:Bs):Option (List Bs):=if s.length≤1000000000∧1≤sep.length then some (kn s sep) else none
theorem y3o {s sep:Bs} {r:List Bs} (h:Zu s sep=some r):s.length≤1000000000∧1≤sep.length∧r=kn s sep:=by
 unfold Zu at h
 split at h
 ·rename_i h1; cases h; exact ⟨h1.1,h1.2,rfl⟩
 ·cases h
def kc (l:List Bs) (sep:Bs):Option Bs:=if l.length≤1000000∧(Lib.join l sep).length≤1000000000 then some (Lib.join l sep) else none
theorem y69 {l:List Bs} {sep r:Bs} (h:kc l sep=some r):l.length≤1000000∧(Lib.join l sep).length≤1000000000∧r=Lib.join l sep:=by
 unfold kc at h
 split at h
 ·rename_i h1; cases h; exact ⟨h1.1,h1.2,rfl⟩
 ·cases h
def yl (l:Bs):List Int:=l.map fun c=>(c.toNat:Int)
def z3o (s p:Bs):Option Bs:=some (Lib.trimPrefix s p)
def uc (s p:Bs):Option (Bs×Bs×Bool):=if s.length≤1000000000 then some (Lib.cut s p) else none
def Wb (s a b:Bs):Option Bs:=if s.length≤1000000∧1≤a.length∧b.length≤1000000 then some (Lib.replaceAll s a b) else none
def ascB (s:Bs):Bool:=s.all fun c=>decide (c.toNat < 128)
def z3q (s p:Bs):Option Int:=if (s.length≤1000000000∧p.length≤1000000000)∧ascB s=true∧ascB p=true then some (Lib.indexAny s p) else none
def z6g (s p:Bs):Option Bool:=if (s.length≤1000000000∧p.length≤1000000000)∧ascB s=true∧ascB p=true then some (Lib.containsAny s p) else none
theorem z2h {s:Bs} (h:ascB s=true) (j:Nat) (b:UInt8) (hb:s[j]?=some b):b.toNat < 128:=by
 have:=(List.all_eq_true.1 h) b (List.mem_of_getElem? hb)
 simpa using this
def Qz (s p:Bs):Option Bs:=if (s.length≤1000000000∧p.length≤1000000000)∧ascB p=true then some (Lib.trimS s p) else none
def z07 (n:Int):Option Bs:=if -9223372036854775808≤n∧n≤9223372036854775807 then some (Lib.itoa n) else none
def z6i (fn s:Bs) (_base _bits e:Int):Option Int:=if fn.length≤1000000000∧s.length≤1000000000∧(e=2∨e=1) then some 5 else none
def byR (l:List Int):Bool:=l.all fun n=>decide (0≤n) && decide (n≤255)
def Zw (s p:Bs):Option Bool:=some (Lib.hasPrefix s p)
abbrev and_ (k:IntKind) (m n:Int):Int:=k.wrap (BitVec.ofInt k.bits m &&& BitVec.ofInt k.bits n).toNat
abbrev or_ (k:IntKind) (m n:Int):Int:=k.wrap (BitVec.ofInt k.bits m ||| BitVec.ofInt k.bits n).toNat
abbrev shl_ (k:IntKind) (m n:Int):Int:=k.wrap (m * 2 ^ (min n.toNat k.bits))
abbrev shr_ (k:IntKind) (m n:Int):Int:=m.fdiv (2 ^ (min n.toNat k.bits))
def Zv:List UInt8→Option (List UInt8)
 | []=>some []
 | [x]=>if x=92 then some [92,92] else none
 | [x,y,z]=>if (x≠34∧x≠92)∧(z≠34∧z≠92) then (if y=34 then some [x,92,34,z] else if y≠92 then some [x,y,z] else none) else none
 | _=>none
end Go.Proofs.YtpjjkhcojjcdpaaGreatDoor
namespace Go.Proofs.YtpjjkhcojjcdpaaGreatDoor
open Go.RowKit
set_option linter.unusedVariables false

section
variable {P:Program} {f:Nat→Slot} {dst:Option Tmp} {ty:TypeId} {pos:String} {af:Array Edge} {gd:Option (Nat×Bool)}
end

section
variable {P:Program} {X:Ctx} {Q:Exit→(Nat→Slot)→Own→Prop} {own:Own} {f:Nat→Slot} {c:Code}
end
section
variable {P:Program} {f:Nat→Slot} {dst:Option Tmp} {ty t':TypeId} {pos:String} {af:Array Edge} {gd:Option (Nat×Bool)}
variable {α:Type} {C:α→List V} {xs ys:List α}
end

theorem y7x {P:Program} {fn:Nat} {args:List V} {e:TypeId} {size:Nat} {es:List (List V)} (hok:vw P fn=true) (hs:0 < size) (hel:∀ el,el∈es→el.length=size)
  (h:∀ (M:Blks) (w:World) (vs:List Value),Mlt w M→Ts w M args vs→Calls P fn vs.toArray w fun r w'=>∃ v xs,r = .returned v∧Kp [] w w'∧w'.ownsRow w.heap.size e size v es.length xs ∧
   ∀ M',Ext M M' w w'→∀ (k c:Nat) (el:List V) (u:V),es[k]?=some el→el[c]?=some u→∃ x,xs[k * size+c]?=some x∧u.p w' M' x∧x.oneCell'=true) :
  FnG P fn (args.map .dat) [] (.row 900 es.length) [(900,.row e size es)]:=by
 refine ⟨hok,fun X A g w vs hw hm hvl hvs => ?_⟩
 have hTs:Ts w (Mof X g (ows (anL A []))) args vs.toList:=by
  refine ⟨by simpa using hvl,fun j u hj => ?_⟩
  obtain ⟨v,h1,h2⟩:=hvs j (.dat u) (by rw [List.getElem?_map,hj]; rfl)
  exact ⟨v,by simpa using h1,h2⟩
 have hM:Mlt w (Mof X g (ows (anL A []))):=by
  obtain ⟨c1,c2,c3⟩:=hm.m0
  rw [hw] at c1 c2
  refine ⟨?_,c2,?_⟩
  ·rintro b (hb | ⟨id,o,h1,h2⟩)
   ·exact (c1 b hb).1
   ·cases h1
  ·rintro b hb (h | ⟨id,o,h1,h2⟩)
   ·exact (c3 b hb).1 h
   ·cases h1
 have hc:=h _ w vs.toList hM hTs
 simp only [Array.toArray_toList] at hc
 refine hc.mono ?_
 rintro r w' ⟨v,xs,rfl,h1,h2,h3⟩
 let g':Gh:=⟨g.bl,fun i k=>if i=900∧k=es.length then some v else g.sv i k⟩
 have hsv:g'.sv 900 es.length=some v:=if_pos ⟨rfl,rfl⟩
 have hown:∀ id o,ows (anL A [(900,AObj.row e size es)]) id=some (some o)→id=900∧o = .row e size es:=by
  intro id o ho
  have:=(jo (by simp [anL]) (id:=id) (o:=o)).1 ho
  simpa [anL,anO] using this
 have hb:∀ b,v.ownBlock=some b→w.heap.size≤b:=by
  intro b hb
  rcases h2.2 with ⟨e1,_⟩ | ⟨b',cap,cur,e1,e2,_⟩
  ·rw [e1] at hb; cases hb
  ·rw [e1] at hb; cases hb; exact e2
 have hE:Ext (Mof X g (ows (anL A []))) (Mof X g' (ows (anL A [(900,AObj.row e size es)]))) w w':=by
  refine ⟨h1.size,fun b hb _ _=>h1.block b hb (by simp),fun b hlt hb' => ?_⟩
  rcases hb' with hb' | ⟨id,o,q1,q2⟩
  ·exact .inl hb'
  ·obtain ⟨rfl,rfl⟩:=hown id o q1
   simp only [obk,hsv,Option.bind_some] at q2
   have:=hb b q2
   omega
 refine ⟨v,g',rfl,⟨?_,hm.m0,?_,?_,?_,?_,?_⟩,hsv⟩
 ·have hk:=hm.kp
  exact ⟨h1.os.trans hk.os,h1.tape.trans hk.tape,h1.output.trans hk.output,Nat.le_trans hk.size h1.size,fun k hk1 hk2=>(h1.block k (Nat.lt_of_lt_of_le hk1 hk.size) (by simp)).trans (hk.block k hk1 hk2)⟩
 ·intro id o ho
  obtain ⟨rfl,rfl⟩:=hown id o ho
  refine ⟨v,xs,hsv,⟨h2.1,?_⟩,hs,hel,h3 _ hE⟩
  rcases h2.2 with q | ⟨b',cap,cur,q1,q2,q3⟩
  ·exact .inl q
  ·exact .inr ⟨b',cap,cur,q1,Nat.zero_le _,q3⟩
 ·intro id id' o o' b q1 q2 _ _
  rw [(hown id o q1).1,(hown id' o' q2).1]
 ·intro id o b q1 q2
  obtain ⟨rfl,rfl⟩:=hown id o q1
  simp only [obk,hsv,Option.bind_some] at q2
  rw [hw]
  exact .inr (hb b q2)
 ·intro id hid
  have h9:id≠900:=fun h=>by subst h; cases hid
  have:=hm.fresh id rfl
  exact ⟨this.1,fun n=>by
   show (if id=900∧n=es.length then some v else g.sv id n)=none
   rw [if_neg (fun h=>h9 h.1)]; exact this.2 n⟩
 ·intro id e' s' es' q1 k hk
  obtain ⟨rfl,q2⟩:=hown id _ q1
  cases q2
  show (if 900=900∧k=es.length then some v else g.sv 900 k)=none
  rw [if_neg (by omega)]
  exact (hm.fresh 900 rfl).2 k
theorem y7v {P:Program} {fn:Nat} {args:List V} {e:TypeId} {size:Nat} {es:List (List V)} (h:FnG P fn (args.map .dat) [] (.row 900 es.length) [(900,.row e size es)]):Fn P fn args (zu [vlst es]):=by
 refine ⟨h.1,fun M w vs hM hvs => ?_⟩
 have hm:Mem ⟨M,w,[],0,none,[]⟩ (ows (anL ⟨fun _=>0,fun _=>undef⟩ [])) ⟨fun _=>none,fun _ _=>none⟩ w:=
  ⟨Kp.refl _ _,⟨fun b hb=>⟨hM.1 b hb,by simp⟩,hM.2.1,fun b hb=>⟨hM.2.2 b hb,by simp⟩⟩,fun id o h=>(by cases h),fun id id' o o' b h=>(by cases h),fun id o b h=>(by cases h),fun id _=>⟨rfl,fun _=>rfl⟩,fun id e size es h=>(by cases h)⟩
 have hMe:Mof ⟨M,w,[],0,none,[]⟩ ⟨fun _=>none,fun _ _=>none⟩ (ows (anL ⟨fun _=>0,fun _=>undef⟩ []))=M:=by
  funext b
  apply propext
  constructor
  ·rintro (h | ⟨id,o,h1,_⟩)
   ·exact h
   ·cases h1
  ·exact fun h => .inl h
 refine (h.2 ⟨M,w,[],0,none,[]⟩ ⟨fun _=>0,fun _=>undef⟩ ⟨fun _=>none,fun _ _=>none⟩ w vs rfl hm (by simpa using hvs.1) (fun j s hs => ?_)).mono ?_
 ·rw [List.getElem?_map] at hs
  cases hq:args[j]? with
  | none=>rw [hq] at hs; cases hs
  | some u =>
   rw [hq] at hs
   cases hs
   obtain ⟨x,h1,h2⟩:=hvs.2 j u hq
   exact ⟨x,by simpa using h1,by rw [hMe]; exact h2⟩
 ·rintro r w' ⟨v,g',rfl,hm',hv⟩
  refine ⟨v,rfl,?_,hm'.kp⟩
  have hv:g'.sv 900 es.length=some v:=hv
  obtain ⟨v',xs,q1,q2,q3,q4,q5⟩:=hm'.ob 900 _ rfl
  rw [hv] at q1
  cases q1
  rcases q2.2 with ⟨e1,e2⟩ | ⟨b,cap,cur,e1,_,e3,e4,e5,e6,e7⟩
  ·exact ⟨none,0,by rw [e1,e2],by omega,fun hne=>absurd (List.eq_nil_of_length_eq_zero e2) hne⟩
  ·have hbM:¬ M b:=fun hb=>by
    have h1:=hm'.mine 900 _ b rfl (show (g'.sv 900 es.length).bind Value.ownBlock=some b by rw [hv,e1]; rfl)
    rcases h1 with h1 | h1
    ·simp at h1
    ·exact absurd (hM.1 b hb) (by simpa using h1)
   refine ⟨some ⟨b,0,none⟩,cap,e1,e4,fun _=>⟨b,0,size,rfl,hbM,cur,e,(0,0),e3,q4,fun k c el u hk hc => ?_⟩⟩
   obtain ⟨x,s1,s2,s3⟩:=q5 k c el u hk hc
   refine ⟨x,?_,u.keep (M:=Mof ⟨M,w,[],0,none,[]⟩ g' _) ⟨Nat.le_refl _,fun _ _ _ _=>rfl,fun b _ hb => .inl hb⟩ s2,s3⟩
   have hkl:=(List.getElem?_eq_some_iff.1 hk).1
   have hcl:=(List.getElem?_eq_some_iff.1 hc).1
   have hel:=q4 el (List.mem_of_getElem? hk)
   rw [← e7,List.getElem?_take_of_lt (Wu hkl (by omega))] at s1
   simpa using s1

end Go.Proofs.YtpjjkhcojjcdpaaGreatDoor
namespace Go.Proofs.YtpjjkhcojjcdpaaGreatDoor
open Go.RowKit
set_option linter.unusedVariables false
end Go.Proofs.YtpjjkhcojjcdpaaGreatDoor
