import Derived.Test.YtbpedjpoikmbjaaGreatDoorMc
import Derived.Test.YtbpedjpoikmbjaaGreatDoorDr
import Derived.WideLaws
import Derived.Laws.Entries
import Derived.Laws.IdiomStrings
namespace Go.Proofs.YtbpedjpoikmbjaaGreatDoor
open Go.RowKit
set_option linter.unusedVariables false
section
variable {P:Program} {f:Nat->Slot} {dst:Option Tmp} {ty:TypeId} {pos:String} {af:Array Edge} {gd:Option (Nat×Bool)}
theorem y5o {α:Type} {xs:List α} {k j:Nat} {y:α} (h:(xs.drop k)[j]?=some y):xs[k+j]?=some y:=by
 rw [List.getElem?_drop] at h;exact h
theorem w0r {t e e':TypeId} {n n':Nat} {x ix:Operand} {id k j:Nat} {es:List (List V)} (h:tyE P t=some (e,n')) (hx:evS f x = .rsub id n n' k) (hi:evS f ix = .dat (vint (j:Int))) (hn:n=es.length) (hk:k+j < es.length) :
  Stp P ⟨dst,.indexAddr t x ix,ty,pos,af,gd⟩ f ⟨false,[(id,some (some (.row e' n' es)))],[],.rptr id n n' (k+j) 0⟩:=
 xa λX own g a w hh hob=>by
  have h2:=hh x (by simp [Op.operands]);have h3:=ja (hh ix (by simp [Op.operands])) hi;rw [hx] at h2;obtain⟨v,xs,q1,q2,q3,q4,q5⟩:=hob;subst hn;obtain⟨b,cap,p1,p2⟩:=h2;rw [p1] at q1;cases q1;obtain⟨i,d1,d2,d3⟩:=z4o h;rcases q2.2 with ⟨e1,e2⟩|⟨b',cap',cur,e1,e2,e3,e4,e5⟩
  ·cases e1
  ·cases e1;have hck:¬ cap=k:=by omega
   refine⟨.pointer (some ⟨b,(k+j)*n'+0,none⟩),?_,b,cap,p1,rfl⟩;rw [if_neg hck] at p2;have e3:(⟨b,k*n',none⟩:Addr).add (j*n')=⟨b,(k+j)*n'+0,none⟩:=by rw [Addr.add_mid,Nat.add_mul];simp
   have hj:j < es.length-k:=by omega
   simp [execOp,h3,p2,Instr.indexAt,asIntOf,run_underlying d1,sizeOf,typeInfo,d2,d3,hj,e3]
theorem w0m {x:Operand} {t e e':TypeId} {id n size k:Nat} {es:List (List V)} (ht:P.underlying t=some (.slice e)) (hx:evS f x = .rsub id n size k) (hn:n=es.length) :
  Stp P ⟨dst,.call { callee:=.builtin .len,args:=#[x],argTypes:=#[t] },ty,pos,af,gd⟩ f ⟨false,[(id,some (some (.row e' size es)))],[],.dat (vint ((es.length-k:Nat):Int))⟩:=
 xa λX own g a w hh hob=>by
  have h2:=hh x (by simp [Op.operands,Call.operands]);rw [hx] at h2;subst hn;obtain⟨b,cap,p1,p2⟩:=h2;refine⟨.int .i64 ((es.length-k:Nat):Int),?_,rfl⟩;simp [execOp,resolve,invoke,builtin,Builtin.len_,p2,run_underlying ht,goInt]
theorem y6k {α:Type} {C:α->List V} {xs:List α} {t e e':TypeId} {n n':Nat} {x ix:Operand} {id k:Nat} {m:Int} {y:α} (h:tyE P t=some (e,n')) (hx:evS f x = .rsub id n n' k) (hn:n=xs.length) (hi:evS f ix = .dat (vint m)) (hk:at? (xs.drop k) m=some y) :
  Stp P ⟨dst,.indexAddr t x ix,ty,pos,af,gd⟩ f ⟨false,[(id,some (some (.row e' n' (xs.map C))))],[],.rptr id n n' (k+m.toNat) 0⟩:=
 w0r h hx (by rw [hi,Int.toNat_of_nonneg (by have:=(qi hk).1;omega)]) (by rw [List.length_map];exact hn) (by rw [List.length_map];exact ji (y5o (qi hk).2))
theorem x9o {α:Type} {C:α->List V} {xs:List α} {x:Operand} {t e e':TypeId} {id n size k:Nat} (ht:P.underlying t=some (.slice e)) (hx:evS f x = .rsub id n size k) (hn:n=xs.length) :
  Stp P ⟨dst,.call { callee:=.builtin .len,args:=#[x],argTypes:=#[t] },ty,pos,af,gd⟩ f ⟨false,[(id,some (some (.row e' size (xs.map C))))],[],.dat (vint ((xs.drop k).length:Int))⟩:=
 ye (w0m ht hx (by rw [List.length_map];exact hn)) (by rw [List.length_map,List.length_drop])
end
end Go.Proofs.YtbpedjpoikmbjaaGreatDoor
namespace Go.Proofs.YtbpedjpoikmbjaaGreatDoor
open Go.RowKit
set_option linter.unusedVariables false
section
variable {P:Program} {f:Nat->Slot} {dst:Option Tmp} {ty:TypeId} {pos:String} {af:Array Edge} {gd:Option (Nat×Bool)}
theorem w0y {us:List V} {t:Tmp} {fn id i0:Nat} {xs:List Operand} {ts:Array TypeId} {args:List Slot} {res:Slot} (σ:Nat->Nat) (L:List Ent) (nw:List (Nat×AObj)) (hF:FnG P fn (args++(.ptr i0 0::us.map .dat)) (jg L) res (vk L nw))
  (hf:evS f (.tmp t) = .dr id (λb=>vfn fn (vval (.pointer (some ⟨b,0,none⟩))::us))) (hi:σ i0=id) (ha:z4a f σ xs args) (hm:matL σ L) (hb:z7o σ (args++(.ptr i0 0::us.map .dat)) res L nw=true) :
  Stp P ⟨dst,.call { callee:=.value (.tmp t),args:=xs.toArray,argTypes:=ts },ty,pos,af,gd⟩ f ⟨false,rdOf σ L nw,wrOf σ L nw,rnS σ res⟩:=by
 unfold z7o at hb;simp only [Bool.and_eq_true_iff] at hb;obtain⟨⟨⟨⟨⟨h1,h2⟩,h3⟩,h4⟩,h5⟩,h6⟩:=hb;refine x3r σ L nw hF (λg a w M hop=>?_) hm h1 h2 h3 h4 (by simp only [Bool.and_eq_true_iff];exact h5) (by simp only [Bool.and_eq_true_iff];exact h6);have hmem:∀ y,y∈Operand.tmp t::xs->RepS g w M (evS f y) (a.eval y):=λy hy=>hop y (by simp only [Op.operands,Call.operands];simp at hy ⊢;exact hy);have h0:=hmem (.tmp t) (by simp);rw [hf] at h0;obtain⟨b,hb0,l,hl,hT1,hT2⟩:=h0;obtain⟨hlen,hargs⟩:=x1k (ev:=a.eval) (λn=>rfl) xs args ha λy hy=>hmem y (List.mem_cons_of_mem _ hy);have hl1:l.length=us.length+1:=hT1;have e3:(xs.map a.eval).length=args.length:=by rw [List.length_map,hlen]
 refine⟨xs.toArray.map a.eval++l.toArray,x4d hF.1 (.tmp t) xs.toArray ts l.toArray a.eval hl w,by simp [hlen,hl1],λj s hj=>?_⟩;rcases Nat.lt_or_ge j args.length with hlt|hge
 ·rw [List.getElem?_append_left hlt] at hj;obtain⟨v,e1,e2⟩:=hargs j s hj;refine⟨v,?_,e2⟩;have e4:((xs.map a.eval)++l)[j]?=some v:=by rw [List.getElem?_append_left (by omega)];exact e1
  simpa using e4
 ·rw [List.getElem?_append_right hge] at hj
  have e5:∀ x,l[j-args.length]?=some x->(xs.toArray.map a.eval++l.toArray)[j]?=some x:=λx hx=>by
   have e4:((xs.map a.eval)++l)[j]?=some x:=by rw [List.getElem?_append_right (by omega),e3];exact hx
   simpa using e4
  cases hj0:j-args.length with
  | zero =>
   rw [hj0] at hj e5;cases hj;obtain⟨x,x1,x2⟩:=hT2 0 _ rfl;have x3:x = .pointer (some ⟨b,0,none⟩):=x2;refine⟨x,e5 x x1,?_⟩;show ∃ b,g.bl (σ i0)=some b/\_;rw [hi];exact⟨b,hb0,x3⟩
  | succ k =>
   rw [hj0] at hj e5;rw [List.getElem?_cons_succ,List.getElem?_map] at hj;obtain⟨u,hu,rfl⟩:=Option.map_eq_some_iff.1 hj;obtain⟨x,x1,x2⟩:=hT2 (k+1) u (by simpa using hu);exact⟨x,e5 x x1,x2⟩
end
section
variable {P:Program} {f:Nat->Slot} {dst:Option Tmp} {ty:TypeId} {pos:String} {af:Array Edge} {ops:Array Oper} {os:List Oper} {own:Own} {lg:List (List Nat×List Nat)} {K:(Nat->Slot)->Own->List (List Nat×List Nat)->Prop}
theorem y7t {us:List V} {t:Tmp} {fn id i0:Nat} {xs:List Operand} {ts:Array TypeId} {args:List Slot} {res:Slot} (σ:Nat->Nat) (L:List Ent) (nw:List (Nat×AObj)) (hF:FnG P fn (args++(.ptr i0 0::us.map .dat)) (jg L) res (vk L nw)) (hrd:y5x own (rdOf σ L nw))
  (hf:evS f (.tmp t) = .dr id (λb=>vfn fn (vval (.pointer (some ⟨b,0,none⟩))::us))) (hi:σ i0=id) (ha:z4a f σ xs args) (hm:matL σ L) (hb:z7o σ (args++(.ptr i0 0::us.map .dat)) res L nw=true)
  (h:seqA P ops os (updS f dst (rnS σ res)) (upl own (wrOf σ L nw)) (((vz L nw).map σ,(vz L nw).map σ)::lg) K) :
  seqA P ops (⟨dst,.call { callee:=.value (.tmp t),args:=xs.toArray,argTypes:=ts },ty,pos,af,none⟩::os) f own lg K:=
 ⟨⟨false,rdOf σ L nw,wrOf σ L nw,rnS σ res⟩,⟨rfl,λ_=>⟨w0y σ L nw hF hf hi ha hm hb,x1p hrd⟩,λh=>(by cases h),λk hk=>by rw [y23];rw [z4b] at hk;exact hk⟩,by
  have e1:(keys (rdOf σ L nw),keys (wrOf σ L nw))=((vz L nw).map σ,(vz L nw).map σ):=by rw [y23,z4b]
  show seqA P ops os _ _ ((keys (rdOf σ L nw),keys (wrOf σ L nw))::lg) K
  rw [e1];exact h⟩
end
end Go.Proofs.YtbpedjpoikmbjaaGreatDoor
namespace Go.Proofs.YtbpedjpoikmbjaaGreatDoor
open Go.RowKit
set_option linter.unusedVariables false
section
variable {P:Program} {f:Nat->Slot} {dst:Option Tmp} {ty:TypeId} {pos:String} {af:Array Edge} {gd:Option (Nat×Bool)}
theorem x31 {e:TypeId} (h:tyS P e=some (false,1)) (w:World):(sizeOf e).run P w = .ok 1 w:=by
 obtain⟨d,i,d1,d2,d3,d4⟩:=uk h
 simp_all [sizeOf,typeInfo]
theorem x3f {t:TypeId} {x ix:Operand} {l:List UInt8} {kd:IntKind} {m:Int} {c:UInt8} (ht:P.underlying t=some .string) (hx:evS f x = .dat (vstr l)) (hi:evS f ix = .dat (vval (.int kd m))) (hk:at? l m=some c) :
  Stp P ⟨dst,.index t x ix,ty,pos,af,gd⟩ f ⟨false,[],[],.dat (vval (.int .u8 (c.toNat:Int)))⟩:=
 vt λX own g a w h=>by
  have h1:=ja (h x (by simp [Op.operands])) hx;have h2:=ja (h ix (by simp [Op.operands])) hi;obtain⟨⟨q1,q2⟩,q3⟩:=qi hk;obtain⟨k,rfl⟩:=Int.eq_ofNat_of_zero_le q1;rw [Int.toNat_natCast] at q3;refine⟨.int .u8 (c.toNat:Int),?_,rfl⟩;have hlt:=(List.getElem?_eq_some_iff.1 q3).1
  have e1:(ByteArray.mk l.toArray)[k]?=some c:=by
   have:k < (ByteArray.mk l.toArray).size:=by simpa [ByteArray.size] using hlt
   rw [getElem?_pos (ByteArray.mk l.toArray) k this];rw [List.getElem?_eq_getElem hlt] at q3;exact q3
  simp [execOp,h1,h2,Instr.index,asIntOf,run_underlying ht,e1]
end
end Go.Proofs.YtbpedjpoikmbjaaGreatDoor
