/- The abstract machine: literal slices, made rows; what is known is seen otherwise (a nil slice as a row, a row as data); functions with a pointer to one object. The abstract machine: more operations. The abstract machine: function values that hold data; a box that is given up. The abstract machine: functions with a pointer to one object that give a new slice, which is then the caller's own. The abstract machine: maps of one's own with string keys, to numbers or truth values. The abstract machine: calls that hand a plain function on as an argument. The abstract machine: functions with a pointer to an element of a row. The abstract machine: a box straight to data; pointers against nil; structs compared. Plain words for the models of functions: partial results, loops over lists, over numbers, and without a bound. No program. The abstract machine for walks that follow a plain model: typed lists in memory, ways that meet, loops that follow the model's loop. The abstract machine: functions that take own objects and give some; memory without a frame, names of objects on both sides of a call. The abstract machine: the call of a function that takes and gives own objects. The abstract machine: the call of a function that takes and gives own objects, as an operation. -/
import Derived.Test.YtgdijjmdfcgifaaGreatMa
import Derived.Laws.StructEq
import Derived.Laws.Pointers
import Derived.IntWalk
namespace Go.Proofs.YtgdijjmdfcgifaaGreat
open Go.RowKit
set_option linter.unusedVariables false

section
variable {P:Program} {f:Nat→Slot} {dst:Option Tmp} {ty:TypeId} {pos:String} {af:Array Edge} {gd:Option (Nat×Bool)}

def y0g (f:Nat→Slot) (size:Nat):Nat→List (Nat×Operand)→List (List V)→Prop
 | _,[],[]=>True
 | i,(j,x)::ps,ws::es=>j=i∧y1n (evS f x) ws∧ws.length=size∧y0g f size (i+1) ps es
 | _,_,_=>False
theorem x7d:∀ (ps:List (Nat×Operand)) (es:List (List V)) (i size:Nat),y0g f size i ps es→ps.length=es.length∧∀ el,el∈es→el.length=size:=by
 intro ps
 induction ps with
 | nil =>
  intro es i size h
  cases es with
  | nil=>exact ⟨rfl,by simp⟩
  | cons _ _=>cases h
 | cons p ps ih =>
  obtain ⟨j,x⟩:=p
  intro es i size h
  cases es with
  | nil=>cases h
  | cons ws es =>
   obtain ⟨_,_,h3,h4⟩:=h
   obtain ⟨q1,q2⟩:=ih es (i+1) size h4
   refine ⟨by simp [q1],fun el hel => ?_⟩
   rcases List.mem_cons.1 hel with rfl | h
   ·exact h3
   ·exact q2 el h
theorem w0x {g:Gh} {w:World} {M:Blks} {size:Nat} {ev:Operand→Value}:∀ (ps:List (Nat×Operand)) (es:List (List V)) (i:Nat) (cells:Array Value),y0g f size i ps es→(∀ p,p∈ps→RepS g w M (evS f p.2) (ev p.2))→(i+ps.length) * size≤cells.size →
  ∃ cells',Instr.fill (fun i=>some (i * size,size)) cells (ps.map fun p=>(p.1,ev p.2))=some cells'∧cells'.size=cells.size∧(∀ q,q < i * size→cells'[q]?=cells[q]?) ∧
   ∀ (k c:Nat) (el:List V) (u:V),es[k]?=some el→el[c]?=some u→∃ x,cells'[(i+k) * size+c]?=some x∧u.p w M x∧x.oneCell'=true:=by
 intro ps
 induction ps with
 | nil =>
  intro es i cells h _ _
  cases es with
  | nil=>exact ⟨cells,rfl,rfl,fun _ _=>rfl,fun k c el u hk=>by simp at hk⟩
  | cons _ _=>cases h
 | cons p ps ih =>
  obtain ⟨j,x⟩:=p
  intro es i cells h hv hsz
  cases es with
  | nil=>cases h
  | cons ws es =>
   obtain ⟨rfl,h2,h3,h4⟩:=h
   have hx:=y4o h2 (hv (j,x) (by simp))
   have hxl:(ev x).cells.size=size:=by have:=hx.1; simp at this; omega
   simp only [List.length_cons] at hsz
   have hsz1:(j+1) * size≤cells.size:=Nat.le_trans (Nat.mul_le_mul_right _ (by omega)) hsz
   have e1:(j+1) * size=j * size+size:=Nat.succ_mul j size
   obtain ⟨f1,f2⟩:=y4b (ev x).cells.toList 0 (j * size) cells (by simp; omega)
   have hfold:(ev x).cells.zipIdx.foldl (fun cs (p:Value×Nat)=>cs.setIfInBounds (j * size+p.2) p.1) cells=((ev x).cells.toList.zipIdx 0).foldl (fun cs (p:Value×Nat)=>cs.setIfInBounds (j * size+p.2) p.1) cells:=by
    rw [← Array.foldl_toList,Array.toList_zipIdx]
   have hjp:j+1+ps.length=j+(ps.length+1):=by omega
   obtain ⟨cells',r1,r2,r3,r4⟩:=ih es (j+1) (((ev x).cells.toList.zipIdx 0).foldl (fun cs (p:Value×Nat)=>cs.setIfInBounds (j * size+p.2) p.1) cells) h4 (fun p hp=>hv p (List.mem_cons_of_mem _ hp)) (by rw [f1,hjp]; exact hsz)
   refine ⟨cells',?_,by rw [r2,f1],fun q hq => ?_,fun k c el u hk hc => ?_⟩
   ·simp only [List.map_cons,Instr.fill,hxl,ne_eq,not_true_eq_false,decide_false,Bool.false_or]
    rw [if_neg (by simp; omega),hfold]
    exact r1
   ·rw [r3 q (by omega),f2 q,if_neg (by omega)]
   ·cases k with
    | zero =>
     cases hk
     have hcl:=(List.getElem?_eq_some_iff.1 hc).1
     obtain ⟨y,s1,s2,s3⟩:=hx.2 c u hc
     refine ⟨y,?_,s2,s3⟩
     rw [Nat.add_zero,r3 _ (by omega),f2,if_pos (by simp; omega)]
     have:j * size+c - (j * size+0)=c:=by omega
     rw [this]; exact s1
    | succ k =>
     have:=r4 k c el u (by simpa using hk) hc
     have e2:j+(k+1)=j+1+k:=by omega
     rw [e2]; exact this

theorem x0r {t e:TypeId} {size bytes:Nat} (h:Elem P t e size bytes) (w:World):P.underlying t=some (.slice e)∧∃ (i:TypeInfo) (z:Value),P.info? e=some i∧i.size=size∧i.bytes=bytes∧i.zero=some z∧z.cells.size=size∧0 < size∧(zeroValue e).run P w = .ok z w∧(sizeOf e).run P w = .ok size w:=by
 obtain ⟨i,z,h1,h2,h3,h4,h5,h6,h7⟩:=h
 exact ⟨h1,i,z,h2,h4,h5,h3,h6,h7,by simp [zeroValue,typeInfo,h2,h3],by simp [sizeOf,typeInfo,h2,h4]⟩

theorem qr {t e:TypeId} {size bytes len:Nat} {ps:Array (Nat×Operand)} (es:List (List V)) (hE:Elem P t e size bytes) (h:y0g f size 0 ps.toList es) (hl:len=es.length) (h24b:Nat.ble (es.length * size) 16777216=true):Stp P ⟨dst,.buildSlice t len ps,ty,pos,af,gd⟩ f ⟨false,[],[],.dat (vlst es)⟩:=
 x4x fun X own g a w hlt hh=>by
  subst hl
  have h24:=Nat.le_of_ble_eq_true h24b
  obtain ⟨e1,i,z,e2,e3,e4,e5,e6,e7,e8,e9⟩:=x0r hE w
  obtain ⟨l1,l2⟩:=x7d ps.toList es 0 size h
  obtain ⟨cells,r1,r2,r3,r4⟩:=w0x (ev:=a.eval) ps.toList es 0 ((Array.range (es.length * size)).map (((if es.length * size=0 then #[] else z.cells):Array Value)[· % (if es.length * size=0 then #[] else z.cells:Array Value).size]!)) h (fun p hp=>hh p.2 (by simp only [Op.operands]; simp; exact ⟨p.1,by simpa using hp⟩)) (by simp; rw [← l1]; simp)
  refine ⟨.slice (some ⟨w.heap.size,0,none⟩) es.length es.length,w.alloc (.cells cells e),?_,(Kp.refl [] w).alloc _,some ⟨w.heap.size,0,none⟩,es.length,rfl,Nat.le_refl _,fun _=>⟨w.heap.size,0,size,rfl,fun hM=>absurd (hlt _ hM) (Nat.lt_irrefl _),cells,e,(0,0),heap_alloc_new w _,l2,fun k c el u hk hc => ?_⟩⟩
  ·have hmap:(ps.map fun (i,x)=>(i,a.eval x)).toList=ps.toList.map fun p=>(p.1,a.eval p.2):=by simp
   have h24':¬ es.length * size > 2 ^ 24:=by omega
   by_cases h0:es.length * size=0
   ·simp only [if_pos h0] at r1
    simp only [execOp,Instr.buildSlice,Sem.run_bind,run_underlying e1,Result.andThen_ok,e9,if_neg h24',Sem.run_pure,if_pos h0,hmap,r1,newRow,run_newObj_alloc]
   ·simp only [if_neg h0] at r1
    simp only [execOp,Instr.buildSlice,Sem.run_bind,run_underlying e1,Result.andThen_ok,e9,if_neg h24',Sem.run_pure,if_neg h0,e8,hmap,r1,newRow,run_newObj_alloc]
  ·obtain ⟨x,s1,s2,s3⟩:=r4 k c el u hk hc
   refine ⟨x,by rw [Nat.zero_add] at s1 ⊢; exact s1,u.keep (M:=Mof X g own) ⟨by simp,fun b hb _ _=>((Kp.refl [] w).alloc (.cells cells e)).block b hb (by simp),fun b _ hb=>hb⟩ s2,s3⟩

theorem x4k (id:Nat) {t e:TypeId} {size bytes:Nat} {x y:Operand} {n m:Nat} {zs:List Value} (hE:Elem P t e size bytes) (hz:tyZ P e=some zs) (h1:zs.all (·.oneCell')=true) (hx:evS f x = .dat (vint (n:Int))) (hy:evS f y = .dat (vint (m:Int))) (hnm:n≤m) (hm:m≤1000000000) (hb:m * bytes≤281474976710656) :
  Stp P ⟨dst,.makeSlice t x y,ty,pos,af,gd⟩ f ⟨false,[(id,none)],[(id,some (some (.row e size (List.replicate n (zs.map vval)))))],.row id n⟩:=by
 refine Qr fun X f' own g a w hr ho h => ?_
 have h2:=vc (h x (by simp [Op.operands])) hx
 have h3:=vc (h y (by simp [Op.operands])) hy
 obtain ⟨e1,i,z,e2,e3,e4,e5,e6,e7,e8,e9⟩:=x0r hE w
 have hzs:z.cells.toList=zs:=by simpa [tyZ,e2,e5] using hz
 have hbm:((bytes:Int) * (m:Int))=((m * bytes:Nat):Int):=by rw [Nat.mul_comm]; simp
 have hmk:=run_make (P:=P) w t e i z e1 e2 e5 .i64 .i64 n m (by omega) (by omega) (by rw [e4,hbm]; omega) (by omega)
 rw [e3] at hmk
 simp only [Int.toNat_natCast] at hmk
 have hzl:zs.length=size:=by rw [← hzs]; simpa using e6
 let v:Value := .slice (some ⟨w.heap.size,0,none⟩) n m
 let g':Gh:=⟨g.bl,fun i k=>if i=id∧k=n then some v else g.sv i k⟩
 have hsv:g'.sv id n=some v:=if_pos ⟨rfl,rfl⟩
 have hlen:(List.replicate n (zs.map vval)).length=n:=by simp
 refine ⟨g',w.alloc (.cells (madeCells z.cells (m * size)) e),.value v,v,⟨fun _ _ h=>h,fun i k u hu => ?_⟩,fun i hi=>⟨rfl,fun k=>if_neg fun h=>hi h.1⟩,?_,.inl rfl,.inl ((Kp.refl [] w).alloc _),fun b hb => ?_,fun e' s' es' he k hk => ?_,fun M' he=>⟨⟨v,(madeCells z.cells (m * size)).toList.take (n * size),by rw [hlen]; exact hsv,⟨?_,.inr ⟨w.heap.size,m,_,by rw [hlen],Nat.zero_le _,heap_alloc_new w _,by rw [hlen]; exact hnm,by unfold maxLen; omega,by rw [size_madeCells],by rw [hlen]⟩⟩,e7,fun el hel => ?_,fun k c el u hk hc => ?_⟩,hsv⟩⟩
 ·show (if i=id∧k=n then some v else g.sv i k)=some u
  rw [if_neg]
  ·exact hu
  ·rintro ⟨rfl,rfl⟩
   rw [(hr.fresh i ho).2] at hu
   cases hu
 ·simp only [execOp,h2,h3,Sem.run_bind,hmk,Result.andThen_ok,Sem.run_pure]; rfl
 ·simp only [obk,hlen,hsv,Option.bind_some] at hb
  exact .inl (by cases hb; exact Nat.le_refl _)
 ·cases he
  rw [hlen] at hk
  show (if id=id∧k=n then some v else g.sv id k)=none
  rw [if_neg (by omega)]
  exact (hr.fresh id ho).2 k
 ·rw [hlen,List.length_take,Array.length_toList,size_madeCells]
  have:=Nat.mul_le_mul_right size hnm
  omega
 ·rw [List.eq_of_mem_replicate hel]; simpa using hzl
 ·have hk':=List.eq_of_mem_replicate (List.mem_of_getElem? hk)
  subst hk'
  have hkn:k < n:=by have:=(List.getElem?_eq_some_iff.1 hk).1; simpa using this
  rw [List.getElem?_map] at hc
  cases hq:zs[c]? with
  | none=>rw [hq] at hc; cases hc
  | some x =>
   rw [hq] at hc
   cases hc
   have hcl:=(List.getElem?_eq_some_iff.1 hq).1
   refine ⟨x,?_,rfl,(List.all_eq_true.1 h1) x (List.mem_of_getElem? hq)⟩
   have hlt:k * size+c < n * size:=Yx hkn (by omega)
   have hlt2:=Nat.lt_of_lt_of_le hlt (Nat.mul_le_mul_right size hnm)
   rw [List.getElem?_take,if_pos hlt]
   have e10:(k * size+c) % size=c:=by rw [Nat.mul_comm,Nat.mul_add_mod]; exact Nat.mod_eq_of_lt (by omega)
   have e11:z.cells[c]?=some x:=by rw [← hzs] at hq; simpa using hq
   have e12:z.cells[c]! = x:=by rw [Array.getElem!_eq_getD,Array.getD_eq_getD_getElem?,e11]; rfl
   simp [madeCells,hlt2,e6,e10,e12]
end

section
variable {P:Program} {X:Ctx} {Q:Exit→(Nat→Slot)→Own→Prop} {f:Nat→Slot} {own:Own} {c:Code}

theorem Qb (t id:Nat) (e:TypeId) (size:Nat) (hf:f t = .dat vnil) (ho:own id=none) (hs:Nat.blt 0 size=true) (h:AWP P X c Q (updS f (some t) (.row id 0)) (upl own [(id,some (some (.row e size [])))])):AWP P X c Q f own:=by
 intro g a w hr
 let g':Gh:=⟨g.bl,fun i k=>if i=id∧k=0 then some (.slice none 0 0) else g.sv i k⟩
 have hsv:g'.sv id 0=some (.slice none 0 0):=if_pos ⟨rfl,rfl⟩
 have hle:g.le g':=⟨fun _ _ h=>h,fun i k u hu=>by
  show (if i=id∧k=0 then _ else g.sv i k)=some u
  rw [if_neg]
  ·exact hu
  ·rintro ⟨rfl,rfl⟩
   rw [(hr.fresh i ho).2] at hu
   cases hu⟩
 obtain ⟨hr',he⟩:=z0h (id:=id) (ob' := .row e size []) (w':=w) hr hle (fun i hi=>⟨rfl,fun k=>if_neg fun h=>hi h.1⟩) (.inl (Kp.refl _ _)) (fun b hb=>by simp only [obk,List.length_nil,hsv,Option.bind_some] at hb; simp [Value.ownBlock] at hb) (fun e' s' es' he k hk=>by
  cases he
  show (if id=id∧k=0 then _ else g.sv id k)=none
  rw [if_neg (by simp at hk; omega)]
  exact (hr.fresh id ho).2 k) (fun M' he _=>⟨_,[],hsv,World.ownsRow_nil w 0 e size,by simpa [Nat.blt_eq] using hs,by simp,by simp⟩)
 have hfr:=hr.fr t
 rw [hf] at hfr
 have hv:a.tmps.getD t undef = .slice none 0 0:=hfr
 refine h g' a w ⟨hr'.kp,hr'.m0,hr'.n,hr'.df,fun t' => ?_,hr'.ob,hr'.sep,hr'.mine,hr'.fresh,hr'.top⟩
 by_cases ht:t'=t
 ·subst ht
  have:Nat.beq t' t'=true:=by simp
  simp only [updS,this,cond_true]
  rw [hv]; exact hsv
 ·simp only [updS,qu ht,cond_false]
  exact hr'.fr t'

theorem z4w (t id:Nat) {e:TypeId} {size n:Nat} {es:List (List V)} (hf:f t = .row id n) (ho:own id=some (some (.row e size es))) (hn:n=es.length) (h:AWP P X c Q (updS f (some t) (.dat (vlst es))) (upl own [(id,some none)])):AWP P X c Q f own:=by
 intro g a w hr
 subst hn
 have hlive:∀ i o,upl own [(id,some none)] i=some (some o)→i≠id∧own i=some (some o):=fun i o h1=>by
  by_cases hi:i=id
  ·subst hi; rw [je] at h1; cases h1
  ·rw [jb hi] at h1; exact ⟨hi,h1⟩
 have hM:∀ b,Mof X g (upl own [(id,some none)]) b→Mof X g own b:=fun b hb=>by
  rcases hb with hb | ⟨i,o,h1,h2⟩
  ·exact .inl hb
  ·exact .inr ⟨i,o,(hlive i o h1).2,h2⟩
 have he:Ext (Mof X g own) (Mof X g (upl own [(id,some none)])) w w:=⟨Nat.le_refl _,fun _ _ _ _=>rfl,fun b _ hb=>hM b hb⟩
 refine h g a w ⟨hr.kp,hr.m0,hr.n,hr.df,fun t' => ?_,fun i o h1=>(hr.ob i o (hlive i o h1).2).keep he (Gh.le_refl g) (fun _ _=>rfl),fun i i' o o' b h1 h2=>hr.sep i i' o o' b (hlive i o h1).2 (hlive i' o' h2).2,fun i o b h1=>hr.mine i o b (hlive i o h1).2,fun i h1 => ?_,fun i e' s' es' h1=>hr.top i e' s' es' (hlive i _ h1).2⟩
 ·by_cases ht:t'=t
  ·subst ht
   have:Nat.beq t' t'=true:=by simp
   simp only [updS,this,cond_true]
   have hfr:=hr.fr t'
   rw [hf] at hfr
   have hv:g.sv id es.length=some (a.tmps.getD t' undef):=hfr
   obtain ⟨v',xs,q1,q2,q3,q4,q5⟩:=hr.ob id _ ho
   rw [hv] at q1
   cases q1
   rcases q2.2 with ⟨r1,r2⟩ | ⟨b,cap,cur,r1,_,hb,hnc,_,hcs,htk⟩
   ·have:es=[]:=List.eq_nil_of_length_eq_zero r2
    subst this
    exact ⟨none,0,r1,Nat.le_refl _,fun h=>absurd rfl h⟩
   ·have hobk:obk g id (.row e size es)=some b:=by simp only [obk]; rw [hv,r1]; rfl
    refine ⟨_,cap,r1,hnc,fun _=>⟨b,0,size,rfl,?_,cur,e,(0,0),hb,q4,fun k c el u hk hc => ?_⟩⟩
    ·rintro (hM0 | ⟨i,o,h1,h2⟩)
     ·have h5:=hr.m0.1 b hM0
      rcases hr.mine id _ b ho hobk with h6 | h6
      ·exact h5.2 h6
      ·omega
     ·obtain ⟨h3,h4⟩:=hlive i o h1
      exact h3 (hr.sep i id o _ b h4 ho h2 hobk)
    ·obtain ⟨x,s1,s2,s3⟩:=q5 k c el u hk hc
     refine ⟨x,?_,u.keep he s2,s3⟩
     rw [← htk,List.getElem?_take] at s1
     split at s1
     ·rw [Nat.zero_add]; simpa using s1
     ·cases s1
  ·simp only [updS,qu ht,cond_false]
   exact (hr.fr t').keep he (Gh.le_refl g)
 ·by_cases hi:i=id
  ·subst hi; rw [je] at h1; cases h1
  ·rw [jb hi] at h1; exact hr.fresh i h1
end

/-! ### functions with a pointer to one object -/
def Imp (P:Program) (fn:Nat) (t:TypeId) (cs:List V) (args:List V) (res:V) (cs':List V):Prop:=
 ki P fn=true∧∀ (M:Blks) (w:World) (b:Nat) (l:List Value) (vs:List Value),Mlt w (fun x=>M x∨x=b)→¬ M b→w.heap[b]?=some (.cells l.toArray t (0,0))→Cs w (fun x=>M x∨x=b) cs l→Ts w (fun x=>M x∨x=b) args vs →
  Calls P fn (Value.pointer (some ⟨b,0,none⟩)::vs).toArray w fun e w'=>∃ v l',e = .returned v∧res.p w' (fun x=>M x∨x=b) v∧Kp [b] w w'∧w'.heap[b]?=some (.cells l'.toArray t (0,0))∧Cs w' (fun x=>M x∨x=b) cs' l'

section
variable {P:Program} {f:Nat→Slot} {dst:Option Tmp} {ty:TypeId} {pos:String} {af:Array Edge} {gd:Option (Nat×Bool)}
theorem yu {fn:Nat} {p:Operand} {xs:List Operand} {ts:Array TypeId} {id:Nat} {an:Option Nat} {t:TypeId} {cs us cs':List V} {res:V} {css:List Slot} (hF:Imp P fn t cs us res cs') (hp:evS f p = .ptr id 0) (ha:z4x f xs us) (hcs:css=cs.map .dat) :
  Stp P ⟨dst,.call { callee := .value (.func fn),args:=(p::xs).toArray,argTypes:=ts },ty,pos,af,gd⟩ f ⟨false,[(id,some (some (.box an t css)))],[(id,some (some (.box an t (cs'.map .dat))))],.dat res⟩:=by
 subst hcs
 intro X f' own g a w Q hr hd hx hrd K hK
 have ho:own id=some (some (.box an t (cs.map .dat))):=hrd (id,_) (by simp)
 have hop:∀ y,y∈p::xs→RepS g w (Mof X g own) (evS f y) (a.eval y):=fun y hy=>by
  have:=hx y (by simp only [Op.operands,Call.operands]; simp at hy ⊢; exact .inr hy)
  rw [← this]; exact hr.ev y
 have h1:=hop p (by simp)
 rw [hp] at h1
 obtain ⟨b,h2,h3⟩:=h1
 obtain ⟨b',l,q1,q0,q2,q3,q4⟩:=hr.ob id _ ho
 rw [h2] at q1
 cases q1
 have hMeq:(fun x=>(Mof X g own x∧x≠b)∨x=b)=Mof X g own:=by
  funext x
  apply propext
  constructor
  ·rintro (h | rfl)
   ·exact h.1
   ·exact .inr ⟨id,_,ho,h2⟩
  ·intro h
   by_cases hxb:x=b
   ·exact .inr hxb
   ·exact .inl ⟨h,hxb⟩
 unfold Oper.wp
 rw [z1m hF.1 _ ts a.eval rfl w]
 show Calls P fn ((p::xs).toArray.map a.eval) w _
 have harg:(p::xs).toArray.map a.eval=(Value.pointer (some ⟨b,0,none⟩)::xs.map a.eval).toArray:=by simp [h3]
 rw [harg]
 have hcall:=hF.2 (fun x=>Mof X g own x∧x≠b) w b l (xs.map a.eval) (by rw [hMeq]; exact hr.mlt) (fun h=>h.2 rfl) q2 (by
  rw [hMeq]
  refine ⟨by simpa using q3,fun j u hj => ?_⟩
  obtain ⟨x,r1,r2,r3⟩:=q4 j (.dat u) (by simp [hj])
  exact ⟨x,r1,r2,r3⟩) (by rw [hMeq]; exact y1i xs us ha (fun y hy=>hop y (List.mem_cons_of_mem _ hy)))
 refine hcall.mono ?_
 rintro e w' ⟨v,l',rfl,r1,r2,r3,r4⟩
 rw [hMeq] at r1 r4
 have hb:=(hr.ob id _ ho).blk_lt h2
 have hout:∀ M':Blks,Ext (Mof X g own) M' w w'→(∀ b'',w.heap.size≤b''→M' b''→b''=b)→Ext (Mof X g own) M' w' w':=fun M' he hM=>⟨Nat.le_refl _,fun _ _ _ _=>rfl,fun b'' hb'' hm=>by
  rcases Nat.lt_or_ge b'' w.heap.size with hlt | hge
  ·exact he.sub b'' hlt hm
  ·have:=hM b'' hge hm; omega⟩
 obtain ⟨hr',he⟩:=z0h (id:=id) (ob' := .box an t (cs'.map .dat)) hr (Gh.le_refl g) (fun i _=>⟨rfl,fun _=>rfl⟩) (.inr ⟨_,b,ho,h2,r2⟩) (fun b' hb' => .inr ⟨_,ho,hb'⟩) (fun e size es h=>by cases h) (fun M' he hM=>⟨b,l',h2,q0,r3,by simpa using r4.1,fun j s hs=>by
  rw [List.getElem?_map] at hs
  cases hq:cs'[j]? with
  | none=>rw [hq] at hs; cases hs
  | some u =>
   rw [hq] at hs
   cases hs
   obtain ⟨x,s1,s2,s3⟩:=r4.2 j u hq
   exact ⟨x,s1,u.keep (hout M' he fun b'' h5 h6=>by have:=hM b'' h5 h6; simp only [obk,h2] at this; cases this; rfl) s2,s3⟩⟩)
 refine hK g v w' (hr'.put _ (.dat res) v hd (res.keep (hout _ he fun b'' h5 h6 => ?_) r1))
 have:=hr'.mlt.1 b'' h6
 rcases h6 with h6 | ⟨i,o,h7,h8⟩
 ·have h9:=(hr.m0.1 b'' h6).1
  have:=hr.kp.size
  omega
 ·by_cases hi:i=id
  ·subst hi
   rw [je] at h7
   cases h7
   simp only [obk,h2] at h8
   cases h8; rfl
  ·rw [jb hi] at h7
   have:=(hr.ob i o h7).blk_lt h8
   omega
end

theorem w0d {N:Nat} {t:TypeId} {cs args:List V} {M:Blks} {w:World} {b:Nat} {l vs:List Value} (hn:args.length < N) (hM:Mlt w (fun x=>M x∨x=b)) (hMb:¬ M b) (hbl:w.heap[b]?=some (.cells l.toArray t (0,0))) (hcs:Cs w (fun x=>M x∨x=b) cs l) (hvs:Ts w (fun x=>M x∨x=b) args vs) :
  ∃ g0,Rel ⟨M,w,[b],N,none,[]⟩ (fun s=>(Slot.ptr 0 0::args.map Slot.dat).getD s .any) (ows [(0,.box (some b) t (cs.map .dat))]) g0 { tmps:=(Value.pointer (some ⟨b,0,none⟩)::vs).toArray++Array.replicate (N - (Value.pointer (some ⟨b,0,none⟩)::vs).toArray.size) undef,defers:=[] } w:=by
 have hvl:vs.length=args.length:=hvs.1
 let ob:AObj := .box (some b) t (cs.map .dat)
 let g0:Gh:=⟨fun id=>if id=0 then some b else none,fun _ _=>none⟩
 have hg0:g0.bl 0=some b:=rfl
 have hows:∀ id o,ows [(0,ob)] id=some (some o)→id=0∧o=ob:=fun id o ho=>by
  by_cases hi:id=0
  ·subst hi
   have:ows [(0,ob)] 0=some (some ob):=rfl
   rw [this] at ho
   cases ho; exact ⟨rfl,rfl⟩
  ·simp only [ows,List.map_cons,upl,qu hi,cond_false,List.map_nil] at ho; cases ho
 have hMof:∀ x,Mof ⟨M,w,[b],N,none,[]⟩ g0 (ows [(0,ob)]) x↔(M x∨x=b):=fun x=>by
  constructor
  ·rintro (h | ⟨id,o,h1,h2⟩)
   ·exact .inl h
   ·obtain ⟨rfl,rfl⟩:=hows id o h1
    have h3:g0.bl 0=some x:=h2
    rw [hg0] at h3; cases h3; exact .inr rfl
  ·rintro (h | rfl)
   ·exact .inl h
   ·exact .inr ⟨0,ob,rfl,hg0⟩
 have hE:Ext (fun x=>M x∨x=b) (Mof ⟨M,w,[b],N,none,[]⟩ g0 (ows [(0,ob)])) w w:=⟨Nat.le_refl _,fun _ _ _ _=>rfl,fun x _ hx=>(hMof x).1 hx⟩
 refine ⟨g0,?_⟩
 refine ⟨Kp.refl _ _,⟨fun b' hb'=>⟨hM.1 b' (.inl hb'),fun hm => ?_⟩,hM.2.1,fun q hq=>⟨fun h=>hM.2.2 q hq (.inl h),fun h=>hM.2.2 q hq (.inr (by simpa using h))⟩⟩,?_,rfl,fun s => ?_,fun id o ho => ?_,fun id id' o o' b' h1 h2 h3 h4 => ?_,fun id o b' h1 h2 => ?_,fun id h1 => ?_,fun id e size es h1 => ?_⟩
 ·have:b'=b:=by simpa using hm
  subst this; exact hMb hb'
 ·simp; omega
 ·cases s with
  | zero =>
   refine ⟨b,hg0,?_⟩
   rw [Array.getD_eq_getD_getElem?,Array.getElem?_append_left (by simp)]
   simp
  | succ s =>
   cases hs:args[s]? with
   | none =>
    have:(Slot.ptr 0 0::args.map Slot.dat).getD (s+1) .any = .any:=by rw [List.getD_eq_getElem?_getD,List.getElem?_cons_succ,List.getElem?_map,hs]; rfl
    rw [this]; trivial
   | some u =>
    have e1:(Slot.ptr 0 0::args.map Slot.dat).getD (s+1) .any = .dat u:=by rw [List.getD_eq_getElem?_getD,List.getElem?_cons_succ,List.getElem?_map,hs]; rfl
    rw [e1]
    obtain ⟨x,hx,hp⟩:=hvs.2 s u hs
    have hlt:s < vs.length:=(List.getElem?_eq_some_iff.1 hx).1
    show u.p w _ _
    rw [Array.getD_eq_getD_getElem?,Array.getElem?_append_left (by simp; omega),List.getElem?_toArray,List.getElem?_cons_succ,hx]
    exact u.keep hE hp
 ·obtain ⟨rfl,rfl⟩:=hows id o ho
  refine ⟨b,l,hg0,(fun q hq=>by cases hq; rfl),hbl,by simpa using hcs.1,fun j s hs => ?_⟩
  rw [List.getElem?_map] at hs
  cases hq:cs[j]? with
  | none=>rw [hq] at hs; cases hs
  | some u =>
   rw [hq] at hs
   cases hs
   obtain ⟨x,s1,s2,s3⟩:=hcs.2 j u hq
   exact ⟨x,s1,u.keep hE s2,s3⟩
 ·rw [(hows id o h1).1,(hows id' o' h2).1]
 ·obtain ⟨rfl,rfl⟩:=hows id o h1
  have h3:g0.bl 0=some b':=h2
  rw [hg0] at h3
  cases h3
  exact .inl (by simp)
 ·have hi:id≠0:=by rintro rfl; cases h1
  exact ⟨if_neg hi,fun _=>rfl⟩
 ·obtain ⟨_,h2⟩:=hows id _ h1
  have h3:AObj.row e size es = .box (some b) t (cs.map .dat):=h2
  cases h3
theorem uj {P:Program} {fn:Nat} {fc:Func} {c:Code} {t:TypeId} {cs args us cs':List V} {N:Nat} {rs:List ResultVar} (hok:ki P fn=true) (hf:P.funcs[fn]?=some fc) (hb:fc.body=some c) (hnt:fc.ntmps=N) (hrs:fc.results.toList=rs) (hn:Nat.blt args.length N=true)
  (h:∀ (X:Ctx) (b:Nat),X.N=N→AWP P X c (fun e f own=>(match e with | .ret=>True | .normal=>True | _=>False)∧z4z P f own rs us∧own 0=some (some (.box (some b) t (cs'.map .dat)))) (fun s=>(Slot.ptr 0 0::args.map Slot.dat).getD s .any) (ows [(0,.box (some b) t (cs.map .dat))])) :
  Imp P fn t cs args (zu us) cs':=by
 refine ⟨hok,fun M w b l vs hM hMb hbl hcs hvs => ?_⟩
 subst hnt hrs
 have hn:args.length < fc.ntmps:=by simpa [Nat.blt_eq] using hn
 obtain ⟨g0,hrel⟩:=w0d hn hM hMb hbl hcs hvs
 refine calls_of_wp hf hb (wp_mono (wpIn_wide.1 (h ⟨M,w,[b],fc.ntmps,none,[]⟩ b rfl g0 _ w hrel)) ?_)
 ·rintro e a' w' ⟨f',own',g',hr,he,hres,hown⟩
  obtain ⟨b',l',o1,o0,o2,o3,o4⟩:=hr.ob 0 _ hown
  have hbb:b=b':=o0 b rfl
  subst hbb
  have hsub:∀ x,(M x∨x=b)→Mof ⟨M,w,[b],fc.ntmps,none,[]⟩ g' own' x:=fun x hx=>by
   rcases hx with hx | rfl
   ·exact .inl hx
   ·exact .inr ⟨0,_,hown,o1⟩
  have hE':Ext (Mof ⟨M,w,[b],fc.ntmps,none,[]⟩ g' own') (fun x=>M x∨x=b) w' w':=⟨Nat.le_refl _,fun _ _ _ _=>rfl,fun x _ hx=>hsub x hx⟩
  obtain ⟨v,hv1,hv2⟩:=y7d (P:=P) hr (fun x=>M x∨x=b) hE' (fun id e size es b' h1 h2 hm=>by
   rcases hm with hm | rfl
   ·have h5:=hr.m0.1 b' hm
    rcases hr.mine id _ b' h1 h2 with h6 | h6
    ·exact h5.2 h6
    ·have:=h5.1
     omega
   ·have h7:=hr.sep id 0 _ _ b' h1 hown h2 o1
    subst h7
    rw [hown] at h1
    cases h1) fc us hres
  have hfin:a'.defers=[]∧∃ v,(results fc a'.tmps).run P w' = .ok v w'∧∃ v_1 l',Ending.returned v = .returned v_1∧(zu us).p w' (fun x=>M x∨x=b) v_1∧Kp [b] w w'∧w'.heap[b]?=some (.cells l'.toArray t (0,0))∧Cs w' (fun x=>M x∨x=b) cs' l':=by
   refine ⟨hr.df,v,hv1,v,l',rfl,hv2,hr.kp,o2,by simpa using o3,fun j u hj => ?_⟩
   obtain ⟨x,s1,s2,s3⟩:=o4 j (.dat u) (by simp [hj])
   exact ⟨x,s1,u.keep hE' s2,s3⟩
  cases e with
  | normal=>exact hfin
  | ret=>exact hfin
  | exit _=>exact he.elim
  | goto _=>exact he.elim
  | panic _=>exact he.elim
  | outgrown=>exact he.elim
end Go.Proofs.YtgdijjmdfcgifaaGreat
namespace Go.Proofs.YtgdijjmdfcgifaaGreat
open Go.RowKit
set_option linter.unusedVariables false

section
variable {P:Program} {f:Nat→Slot} {dst:Option Tmp} {ty:TypeId} {pos:String} {af:Array Edge} {gd:Option (Nat×Bool)}

theorem zy {x:Operand} {id off:Nat} (hx:evS f x = .ptr id off):Stp P ⟨dst,.nilCheck x,ty,pos,af,gd⟩ f ⟨false,[],[],.ptr id off⟩:=
 ve fun X own g a w h=>by
  have h1:=h x (by simp [Op.operands])
  rw [hx] at h1
  obtain ⟨b,h2,h3⟩:=h1
  exact ⟨_,by simp [execOp,h3],b,h2,rfl⟩
theorem ub {x:Operand} {es:List (List V)} {k c:Nat} (hx:evS f x = .dat (zx es k c)):Stp P ⟨dst,.nilCheck x,ty,pos,af,gd⟩ f ⟨false,[],[],.dat (zx es k c)⟩:=
 ve fun X own g a w h=>by
  have h1:=h x (by simp [Op.operands])
  rw [hx] at h1
  obtain ⟨b,off,size,h2,h3⟩:=h1
  exact ⟨_,by simp [execOp,h2],b,off,size,rfl,h3⟩
theorem z8w {t t':TypeId} {x y:Operand} {m n:Int} (hx:evS f x = .dat (vint m)) (hy:evS f y = .dat (vint n)) (h1:n≠0) :
  Stp P ⟨dst,.binOp .rem t x y t',ty,pos,af,gd⟩ f ⟨false,[],[],.dat (vint (m.tmod n))⟩:=
 ux hx hy fun w=>by simp [eqGuard,binOp,Op.intDiv,h1]
theorem x39 {t t':TypeId} {x y:Operand} {k k':IntKind} {m n:Int} (hx:evS f x = .dat (vval (.int k m))) (hy:evS f y = .dat (vval (.int k' n))) (h0:0≤n) :
  Stp P ⟨dst,.binOp .shr t x y t',ty,pos,af,gd⟩ f ⟨false,[],[],.dat (vval (.int k (m.fdiv (2 ^ (min n.toNat k.bits)))))⟩:=
 ux hx hy fun w=>by simp [eqGuard,binOp,Op.shift,Int.not_lt.2 h0]
theorem y2j {s d:TypeId} {x:Operand} {k k':IntKind} {n:Int} {ds:TypeDesc} (hs:P.underlying s=some ds) (hd:P.underlying d=some (.int k)) (hx:evS f x = .dat (vval (.int k' n))):Stp P ⟨dst,.convert s d x,ty,pos,af,gd⟩ f ⟨false,[],[],.dat (vval (.int k (k.wrap n)))⟩:=
 ve fun X own g a w h=>by
  have h1:=vc (h x (by simp [Op.operands])) hx
  exact ⟨_,by simp [execOp,h1,convert,run_underlying hs,run_underlying hd,Conv.intToInt],rfl⟩
theorem x4w {t e:TypeId} {n:Nat} {x ix:Operand} {es:List (List V)} {m:Int} (h:tyE P t=some (e,n)) (hx:evS f x = .dat (vlst es)) (hi:evS f ix = .dat (vint m)) (hk:0≤m∧m < (es.length:Int)) (hn:∀ el,el∈es→el.length=n) :
  Stp P ⟨dst,.indexAddr t x ix,ty,pos,af,gd⟩ f ⟨false,[],[],.dat (zx es m.toNat 0)⟩:=
 y6q h hx (by rw [hi,Int.toNat_of_nonneg hk.1]) (by omega) hn
theorem x4v {t e e':TypeId} {n n':Nat} {x ix:Operand} {id:Nat} {m:Int} {es:List (List V)} (h:tyE P t=some (e,n')) (hx:evS f x = .row id n) (hi:evS f ix = .dat (vint m)) (hn:n=es.length) (hk:0≤m∧m < (es.length:Int)) :
  Stp P ⟨dst,.indexAddr t x ix,ty,pos,af,gd⟩ f ⟨false,[(id,some (some (.row e' n' es)))],[],.rptr id n n' m.toNat 0⟩:=
 y6p h hx (by rw [hi,Int.toNat_of_nonneg hk.1]) hn (by omega)
end


section
variable {P:Program} {f:Nat→Slot} {dst:Option Tmp} {ty:TypeId} {pos:String} {af:Array Edge} {gd:Option (Nat×Bool)}
theorem x4q {t:TypeId} {n:Nat} {p:Operand} {es:List (List V)} {k c:Nat} {el:List V} (ht:tyS P t=some (true,n)) (hp:evS f p = .dat (zx es k c)) (he:es[k]?=some el) (hn':Nat.ble (c+n) el.length=true) :
  Stp P ⟨dst,.load t p,ty,pos,af,gd⟩ f ⟨false,[],[],.dat (vagg ((el.drop c).take n))⟩:=by
 have hn:=Nat.le_of_ble_eq_true hn'
 refine ve fun X own g a w h => ?_
 have h2:=h p (by simp [Op.operands])
 rw [hp] at h2
 obtain ⟨b,off,size,h3,hM,arr,e,fz,h4,h5,h6⟩:=h2
 obtain ⟨d,i,d1,d2,d3,d4⟩:=kr ht
 have hx:∀ j,j < n→∃ x,arr[off+k * size+c+j]?=some x∧(∀ u,el[c+j]?=some u→u.p w (Mof X g own) x)∧x.oneCell'=true:=fun j hj=>by
  have hj':c+j < el.length:=by omega
  obtain ⟨x,r1,r2,r3⟩:=h6 k (c+j) el el[c+j] he (List.getElem?_eq_getElem hj')
  exact ⟨x,by rw [Nat.add_assoc (off+k * size)]; exact r1,fun u hu=>by rw [List.getElem?_eq_getElem hj'] at hu; cases hu; exact r2,r3⟩
 have hlen:((arr.toList.drop (off+k * size+c)).take n).length=n:=by
  rcases Nat.eq_zero_or_pos n with h0 | h0
  ·simp [h0]
  ·obtain ⟨x,r1,_⟩:=hx (n - 1) (by omega)
   have:=(Array.getElem?_eq_some_iff.1 r1).1
   simp; omega
 refine ⟨.agg ((arr.toList.drop (off+k * size+c)).take n).toArray,?_,_,rfl,by rw [hlen]; simp; omega,fun j u hj => ?_⟩
 ·have hrun:=run_loadAt_mid (P:=P) w b (off+k * size+c) t ((arr.toList.drop (off+k * size+c)).take n) d (fun j v hv=>by
   rw [cell_of_row w b _ _ _ _ h4]
   rw [List.getElem?_take] at hv
   split at hv
   ·rw [List.getElem?_drop] at hv; simpa using hv
   ·cases hv) d1 d2 (by rw [d3,hlen]; simp [d4])
  simp only [execOp,h3,hrun,Sem.run_bind,Result.andThen_ok,Sem.run_pure]
 ·rw [List.getElem?_take] at hj
  split at hj
  ·rename_i hjn
   rw [List.getElem?_drop] at hj
   obtain ⟨x,r1,r2,r3⟩:=hx j hjn
   refine ⟨x,?_,r2 u hj,r3⟩
   rw [List.getElem?_take,if_pos hjn,List.getElem?_drop]
   simpa using r1
  ·cases hj
end
end Go.Proofs.YtgdijjmdfcgifaaGreat
namespace Go.Proofs.YtgdijjmdfcgifaaGreat
open Go.RowKit
set_option linter.unusedVariables false

def vfn (fn:Nat) (us:List V):V:=
 ⟨fun w M v=>∃ l:List Value,v = .func (.func fn) #[] l.toArray∧Ts w M us l,true,fun e ⟨l,h1,h2⟩=>⟨l,h1,h2.keep e⟩,fun _ _ _ v ⟨l,h1,_⟩=>by rw [h1]; rfl⟩

def datS (f:Nat→Slot):List Operand→List V→Prop
 | [],[]=>True
 | x::xs,u::us=>evS f x = .dat u∧datS f xs us
 | _,_=>False
theorem w1e {f:Nat→Slot}:∀ (xs:List Operand) (us:List V),datS f xs us→z4x f xs us:=by
 intro xs
 induction xs with
 | nil=>intro us h; cases us with
  | nil=>trivial
  | cons _ _=>cases h
 | cons x xs ih=>intro us h; cases us with
  | nil=>cases h
  | cons u us=>exact ⟨.inl h.1,ih us h.2⟩

section
variable {P:Program} {f:Nat→Slot} {dst:Option Tmp} {ty:TypeId} {pos:String} {af:Array Edge} {gd:Option (Nat×Bool)}
theorem Yn {fn:Nat} {xs:Array Operand} {us:List V} (h:datS f xs.toList us):Stp P ⟨dst,.makeFunc (.func fn) #[] xs,ty,pos,af,gd⟩ f ⟨false,[],[],.dat (vfn fn us)⟩:=
 ve fun X own g a w hh=>by
  refine ⟨.func (.func fn) #[] (xs.map a.eval),?_,xs.toList.map a.eval,by rw [← Array.toList_map],y1i xs.toList us (w1e _ _ h) (fun x hx=>hh x (by simp only [Op.operands]; simpa using hx))⟩
  simp [execOp,Instr.makeFunc]
theorem y7i {fn : Nat} (hc : ki P fn = true) (fx : Operand) (xs : Array Operand) (ts : Array TypeId) (cap : Array Value) (ev : Operand → Value) (hev : ev fx = .func (.func fn) #[] cap) (w : World) :
    (execOp ev ⟨dst, .call { callee := .value fx, args := xs, argTypes := ts }, ty, pos, af, gd⟩).run P w = .ok (.enter fn (xs.map ev ++ cap)) w := by
  unfold ki at hc
  cases hf : P.funcs[fn]? with
  | none => rw [hf] at hc; cases hc
  | some fc =>
    rw [hf] at hc
    simp only [Bool.and_eq_true, Bool.not_eq_true'] at hc
    have h1 : ¬ fc.name = "runtime.NumGoroutine" := by simpa using hc.1
    have h2 : ¬ fc.body = none := by
      intro hb; rw [hb] at hc; cases hc.2
    simp [execOp, resolve, hev, Deferred.ofValue, invoke, callFunc, hf, h1, h2]

theorem w2g {w:World} {M:Blks} {us us':List V} {l l':List Value} (h:Ts w M us l) (h':Ts w M us' l'):Ts w M (us++us') (l++l'):=by
 refine ⟨by simp [h.1,h'.1],fun j u hj => ?_⟩
 rcases Nat.lt_or_ge j us.length with hl | hl
 ·rw [List.getElem?_append_left hl] at hj
  obtain ⟨x,q1,q2⟩:=h.2 j u hj
  exact ⟨x,by rw [List.getElem?_append_left (by rw [h.1]; exact hl)]; exact q1,q2⟩
 ·rw [List.getElem?_append_right hl] at hj
  obtain ⟨x,q1,q2⟩:=h'.2 _ u hj
  exact ⟨x,by rw [List.getElem?_append_right (by rw [h.1]; exact hl),h.1]; exact q1,q2⟩

theorem uw {t:Tmp} {fn:Nat} {xs:Array Operand} {ts:Array TypeId} {us cs:List V} {res:V} (hF:Fn P fn (us++cs) res) (hf:evS f (.tmp t) = .dat (vfn fn cs)) (ha:z4x f xs.toList us):Stp P ⟨dst,.call { callee := .value (.tmp t),args:=xs,argTypes:=ts },ty,pos,af,gd⟩ f ⟨false,[],[],.dat res⟩:=by
 intro X f' own g a w Q hr hd hx hrd K hK
 have hop:∀ y,y∈Operand.tmp t::xs.toList→RepS g w (Mof X g own) (evS f y) (a.eval y):=fun y hy=>by
  have:=hx y (by simp only [Op.operands,Call.operands]; simp at hy ⊢; exact hy)
  rw [← this]; exact hr.ev y
 have h1:=hop (.tmp t) (by simp)
 rw [hf] at h1
 obtain ⟨l,h2,h3⟩:=h1
 unfold Oper.wp
 rw [y7i hF.1 (.tmp t) xs ts l.toArray a.eval h2 w]
 show Calls P fn (xs.map a.eval++l.toArray) w _
 have hT:Ts w (Mof X g own) (us++cs) (xs.map a.eval++l.toArray).toList:=by
  rw [Array.toList_append,Array.toList_map]
  exact w2g (y1i xs.toList us ha (fun x hm=>hop x (List.mem_cons_of_mem _ hm))) h3
 refine (hF.2 _ w _ hr.mlt hT).mono ?_
 rintro e w' ⟨v,rfl,h1,h2⟩
 exact hK g v w' ((hr.grow h2).put _ (.dat res) v hd h1)
end

def frzS (id:Nat) (us:List V):Slot→Slot
 | .ptr i off=>cond (Nat.beq i id) (.dat (zx [us] 0 off)) (.ptr i off)
 | s=>s
theorem xm {P:Program} {X:Ctx} {Q:Exit→(Nat→Slot)→Own→Prop} {f:Nat→Slot} {own:Own} {c:Code} (id:Nat) (us:List V) {an:Option Nat} {t:TypeId} {cs:List Slot} (ho:own id=some (some (.box an t cs))) (hcs:cs=us.map .dat)
  (h:AWP P X c Q (fun s=>frzS id us (f s)) (upl own [(id,some none)])):AWP P X c Q f own:=by
 intro g a w hr
 subst hcs
 have hlive:∀ i o,upl own [(id,some none)] i=some (some o)→i≠id∧own i=some (some o):=fun i o h1=>by
  by_cases hi:i=id
  ·subst hi; rw [je] at h1; cases h1
  ·rw [jb hi] at h1; exact ⟨hi,h1⟩
 have hM:∀ b,Mof X g (upl own [(id,some none)]) b→Mof X g own b:=fun b hb=>by
  rcases hb with hb | ⟨i,o,h1,h2⟩
  ·exact .inl hb
  ·exact .inr ⟨i,o,(hlive i o h1).2,h2⟩
 have he:Ext (Mof X g own) (Mof X g (upl own [(id,some none)])) w w:=⟨Nat.le_refl _,fun _ _ _ _=>rfl,fun b _ hb=>hM b hb⟩
 refine h g a w ⟨hr.kp,hr.m0,hr.n,hr.df,fun t' => ?_,fun i o h1=>(hr.ob i o (hlive i o h1).2).keep he (Gh.le_refl g) (fun _ _=>rfl),fun i i' o o' b h1 h2=>hr.sep i i' o o' b (hlive i o h1).2 (hlive i' o' h2).2,fun i o b h1=>hr.mine i o b (hlive i o h1).2,fun i h1 => ?_,fun i e' s' es' h1=>hr.top i e' s' es' (hlive i _ h1).2⟩
 ·have hfr:=hr.fr t'
  cases hs:f t' with
  | ptr i off =>
   by_cases hi:i=id
   ·subst hi
    have:Nat.beq i i=true:=by simp
    simp only [frzS,this,cond_true]
    rw [hs] at hfr
    obtain ⟨b,q1,q2⟩:=hfr
    obtain ⟨b',l,r1,_,r2,r3,r4⟩:=hr.ob i _ ho
    rw [q1] at r1
    cases r1
    refine ⟨b,0,us.length,by rw [q2]; simp,?_,l.toArray,t,(0,0),r2,by simp,fun k c' el u hk hc => ?_⟩
    ·rintro (hM0 | ⟨i',o,h1,h2⟩)
     ·have h5:=hr.m0.1 b hM0
      rcases hr.mine i _ b ho q1 with h6 | h6
      ·exact h5.2 h6
      ·omega
     ·obtain ⟨h3,h4⟩:=hlive i' o h1
      exact h3 (hr.sep i' i o _ b h4 ho h2 q1)
    ·cases k with
     | zero =>
      cases hk
      obtain ⟨x,s1,s2,s3⟩:=r4 c' (.dat u) (by simp [hc])
      exact ⟨x,by simpa using s1,u.keep he s2,s3⟩
     | succ k=>cases hk
   ·simp only [frzS,qu hi,cond_false]
    rw [hs] at hfr
    exact RepS.keep he (Gh.le_refl g) hfr
  | any=>trivial
  | dat u=>rw [hs] at hfr; exact RepS.keep he (Gh.le_refl g) hfr
  | row i n=>rw [hs] at hfr; exact RepS.keep he (Gh.le_refl g) hfr
  | rptr i n size k c=>rw [hs] at hfr; exact RepS.keep he (Gh.le_refl g) hfr
  | mp i=>rw [hs] at hfr; exact RepS.keep he (Gh.le_refl g) hfr
  | rsub i n size k=>rw [hs] at hfr; exact RepS.keep he (Gh.le_refl g) hfr
  | nptr i=>rw [hs] at hfr; exact RepS.keep he (Gh.le_refl g) hfr
  | dr i u=>rw [hs] at hfr; exact RepS.keep he (Gh.le_refl g) hfr
  | comp tup cs=>rw [hs] at hfr; exact RepS.keep he (Gh.le_refl g) hfr
 ·by_cases hi:i=id
  ·subst hi; rw [je] at h1; cases h1
  ·rw [jb hi] at h1; exact hr.fresh i h1

theorem x0a {P:Program} {fn:Nat} {args:List V} {res:V} (hok:ki P fn=true) (h:∀ (M:Blks) (w:World) (vs:List Value),Ts w M args vs→Calls P fn vs.toArray w fun e w'=>∃ v,e = .returned v∧res.p w' M v∧Kp [] w w'):Fn P fn args res:=
 ⟨hok,fun M w vs _ hvs=>by have:=h M w vs.toList hvs; simpa using this⟩
theorem x1i {w:World} {M:Blks}:∀ {us:List Value} {l:List Value},Ts w M (us.map vval) l→l=us:=by
 intro us
 induction us with
 | nil=>intro l h; exact List.eq_nil_of_length_eq_zero h.1
 | cons u us ih =>
  intro l h
  cases l with
  | nil=>have:=h.1; simp at this
  | cons x l =>
   obtain ⟨y,h1,h2⟩:=h.2 0 (vval u) rfl
   cases h1
   have h3:x=u:=h2
   subst h3
   rw [ih ⟨by have:=h.1; simpa using this,fun j u' hj=>h.2 (j+1) u' hj⟩]

/-! ### ways that meet behind a region -/
def dstL:List Oper→List Nat
 | []=>[]
 | o::os=>match o.dst with
  | some d=>d::dstL os
  | none=>dstL os
theorem x5n {P:Program} {ops:Array Oper}:∀ (os:List Oper) (f:Nat→Slot) (own:Own) (lg:List (List Nat×List Nat)) (K K':(Nat→Slot)→Own→List (List Nat×List Nat)→Prop),(∀ f' own' lg',K f' own' lg'→K' f' own' lg')→seqA P ops os f own lg K→seqA P ops os f own lg K':=by
 intro os
 induction os with
 | nil=>intro f own lg K K' hk h; exact hk _ _ _ h
 | cons o os ih=>intro f own lg K K' hk h; obtain ⟨T,h1,h2⟩:=h; exact ⟨T,h1,ih _ _ _ K K' hk h2⟩
theorem w2h {P:Program} {ops:Array Oper}:∀ (os:List Oper) (f:Nat→Slot) (own:Own) (lg:List (List Nat×List Nat)) (K:(Nat→Slot)→Own→List (List Nat×List Nat)→Prop),seqA P ops os f own lg K →
  seqA P ops os f own lg fun f' own' lg'=>(∀ t,t ∉ dstL os→f' t=f t)∧K f' own' lg':=by
 intro os
 induction os with
 | nil=>intro f own lg K h; exact ⟨fun _ _=>rfl,h⟩
 | cons o os ih =>
  intro f own lg K h
  obtain ⟨T,h1,h2⟩:=h
  refine ⟨T,h1,?_⟩
  have h3:=ih _ _ _ _ h2
  refine x5n os _ _ _ _ _ (fun f' own' lg' ⟨q1,q2⟩=>⟨fun t ht => ?_,q2⟩) h3
  cases hd:o.dst with
  | none =>
   simp only [dstL,hd] at ht
   rw [q1 t ht,hd]; rfl
  | some d =>
   simp only [dstL,hd,List.mem_cons,not_or] at ht
   rw [q1 t ht.2,hd]
   simp only [updS,qu ht.1,cond_false]
end Go.Proofs.YtgdijjmdfcgifaaGreat
namespace Go.Proofs.YtgdijjmdfcgifaaGreat
open Go.RowKit
set_option linter.unusedVariables false

section
variable {P:Program} {ops:Array Oper} {os:List Oper} {own:Own} {lg:List (List Nat×List Nat)} {K:(Nat→Slot)→Own→List (List Nat×List Nat)→Prop} {s:Slot} {op:Op}
variable {f:Nat→Slot} {dst:Option Tmp} {ty:TypeId} {pos:String} {af:Array Edge} {gd:Option (Nat×Bool)}
theorem wu {x:Operand} {id n size k c:Nat} (hx:evS f x = .rptr id n size k c):Stp P ⟨dst,.nilCheck x,ty,pos,af,gd⟩ f ⟨false,[],[],.rptr id n size k c⟩:=
 ve fun X own g a w h=>by
  have h1:=h x (by simp [Op.operands])
  rw [hx] at h1
  obtain ⟨b,cap,h2,h3⟩:=h1
  exact ⟨_,by simp [execOp,h3],b,cap,h2,rfl⟩
theorem y3d {own:Own} {id id2:Nat} {q r:Option (Option AObj)} (hq:own id=q) (hr:own id2=r):∀ p,p∈[(id,q),(id2,r)]→own p.1=p.2:=by
 intro p hp
 simp only [List.mem_cons,List.not_mem_nil,or_false] at hp
 rcases hp with rfl | rfl
 ·exact hq
 ·exact hr
theorem x5l {id id2:Nat} {q q' r r':Option (Option AObj)} (hst:Stp P ⟨dst,op,ty,pos,af,none⟩ f ⟨false,[(id,q),(id2,r)],[(id2,r'),(id,q')],s⟩) (hq:own id=q) (hr:own id2=r)
  (h:seqA P ops os (updS f dst s) (upl own [(id2,r'),(id,q')]) (([id,id2],[id2,id])::lg) K):seqA P ops (⟨dst,op,ty,pos,af,none⟩::os) f own lg K:=
 ⟨_,⟨rfl,fun _=>⟨hst,y3d hq hr⟩,fun h=>(by cases h),fun k hk=>(by simp [keys] at hk ⊢; omega)⟩,h⟩

end

end Go.Proofs.YtgdijjmdfcgifaaGreat
namespace Go.Proofs.YtgdijjmdfcgifaaGreat
open Go.RowKit
set_option linter.unusedVariables false

def z1p (P:Program) (k e:TypeId) (n:Nat) (m:List UInt8→Bool):Obj→Prop:=fun o=>∀ (w:World) (b:Nat),w.heap[b]?=some o→MapB P w k e b n m
def vj (P:Program) (k e:TypeId) (n:Nat) (m:List UInt8→Int):Obj→Prop:=fun o=>∀ (w:World) (b:Nat),w.heap[b]?=some o→MapI P w k e b n m
theorem y8t {P:Program} {w:World} {k e:TypeId} {b n:Nat} {m:List UInt8→Bool} {o:Obj} (h:MapB P w k e b n m) (ho:w.heap[b]?=some o):z1p P k e n m o:=by
 intro w' b' h'
 obtain ⟨D,⟨es,clock,hh,F,hs,hD⟩,h2⟩:=h
 rw [ho] at hh
 cases hh
 exact ⟨D,⟨es,clock,h',F,hs,hD⟩,h2⟩
theorem y8s {P:Program} {w:World} {k e:TypeId} {b n:Nat} {m:List UInt8→Int} {o:Obj} (h:MapI P w k e b n m) (ho:w.heap[b]?=some o):vj P k e n m o:=by
 intro w' b' h'
 obtain ⟨D,⟨es,clock,hh,F,hs,hD⟩,h2⟩:=h
 rw [ho] at hh
 cases hh
 exact ⟨D,⟨es,clock,h',F,hs,hD⟩,h2⟩
theorem y8r {P:Program} {w:World} {k:TypeId} {R:Value→Option (DataW Unit×List MemPlace)} {b n:Nat} {D:DataW Unit} (h:w.ownsMap P k R b n D):∃ o,w.heap[b]?=some o:=by
 obtain ⟨es,clock,hh,_⟩:=h; exact ⟨_,hh⟩

def tyMB (P:Program) (t k e:TypeId):Prop:=P.underlying k=some .string∧P.underlying t=some (.map k e)∧P.underlying e=some .bool∧∀ w,(zeroValue e).run P w = .ok (.bool false) w
def tyMI (P:Program) (t k e:TypeId):Prop:=P.underlying k=some .string∧P.underlying t=some (.map k e)∧P.underlying e=some (.int .i64)∧∀ w,(zeroValue e).run P w = .ok (.int .i64 0) w

section
variable {P:Program} {f:Nat→Slot} {dst:Option Tmp} {ty:TypeId} {pos:String} {af:Array Edge} {gd:Option (Nat×Bool)}

theorem y2g (id:Nat) {o:Oper} {ob:Obj} {R:Obj→Prop} (hR:R ob) (h:∀ (ev:Operand→Value) (w:World),(execOp ev o).run P w = .ok (.value (.map (some w.heap.size))) (w.alloc ob)) :
  Stp P o f ⟨false,[(id,none)],[(id,some (some (.opq none R)))],.mp id⟩:=by
 refine Qr fun X f' own g a w hr ho hh => ?_
 let g':Gh:=⟨fun i=>if i=id then some w.heap.size else g.bl i,g.sv⟩
 have hbl:g'.bl id=some w.heap.size:=if_pos rfl
 refine ⟨g',w.alloc ob,.value (.map (some w.heap.size)),.map (some w.heap.size),⟨fun i b hb => ?_,fun _ _ _ h=>h⟩,fun i hi=>⟨if_neg hi,fun _=>rfl⟩,h a.eval w,.inl rfl,.inl ((Kp.refl [] w).alloc _),fun b hb => ?_,fun e size es h=>(by cases h),fun M' he=>⟨⟨w.heap.size,ob,hbl,fun q hq=>(by cases hq),heap_alloc_new w _,hR⟩,w.heap.size,hbl,rfl⟩⟩
 ·show (if i=id then _ else _)=_
  rw [if_neg]
  ·exact hb
  ·rintro rfl; rw [(hr.fresh i ho).1] at hb; cases hb
 ·simp only [obk,hbl] at hb
  cases hb
  exact .inl (Nat.le_refl _)
theorem x4i (id:Nat) {t k e:TypeId} (ht:tyMB P t k e):Stp P ⟨dst,.makeMap t none,ty,pos,af,gd⟩ f ⟨false,[(id,none)],[(id,some (some (.opq none (z1p P k e 0 fun _=>false))))],.mp id⟩:=
 y2g id (ob := .map #[] 0) (y8t (MapB.made P default k e) (heap_alloc_new _ _)) fun ev w=>by simp [execOp,Instr.makeMap]
theorem y2h (id:Nat) {t k e:TypeId} (ht:tyMI P t k e):Stp P ⟨dst,.makeMap t none,ty,pos,af,gd⟩ f ⟨false,[(id,none)],[(id,some (some (.opq none (vj P k e 0 fun _=>0))))],.mp id⟩:=
 y2g id (ob := .map #[] 0) (y8s (MapI.made P default k e) (heap_alloc_new _ _)) fun ev w=>by simp [execOp,Instr.makeMap]
theorem z8v {l:List UInt8} (h:l.length≤1000000000):(ByteArray.mk l.toArray).size≤maxLen:=by
 have:(ByteArray.mk l.toArray).size=l.length:=by simp [ByteArray.size]
 rw [this]; unfold maxLen; omega
theorem x4m {an:Option Nat} {t k e:TypeId} {n:Nat} {m:List UInt8→Bool} {x y:Operand} {id:Nat} {l:List UInt8} (ht:tyMB P t k e) (hx:evS f x = .mp id) (hy:evS f y = .dat (vstr l)) (hl:l.length≤1000000000) :
  Stp P ⟨dst,.lookup t x y false,ty,pos,af,gd⟩ f ⟨false,[(id,some (some (.opq an (z1p P k e n m))))],[],.dat (zn (m l))⟩:=
 xv fun X own g a w h hob=>by
  obtain ⟨b,h1,h2⟩:∃ b,g.bl id=some b∧a.eval x = .map (some b):=by have:=h x (by simp [Op.operands]); rw [hx] at this; exact this
  have h3:=vc (h y (by simp [Op.operands])) hy
  obtain ⟨b',o,q1,_,q2,q3⟩:=hob
  rw [h1] at q1
  cases q1
  have:=(q3 w b q2).look ht.1 ht.2.1 ht.2.2.1 ht.2.2.2 ⟨l.toArray⟩ (z8v hl)
  exact ⟨_,by simp only [execOp,h2,h3,Sem.run_bind,this,Result.andThen_ok,Sem.run_pure],rfl⟩
theorem z28 {an:Option Nat} {t k e:TypeId} {n:Nat} {m:List UInt8→Int} {x y:Operand} {id:Nat} {l:List UInt8} (ht:tyMI P t k e) (hx:evS f x = .mp id) (hy:evS f y = .dat (vstr l)) (hl:l.length≤1000000000) :
  Stp P ⟨dst,.lookup t x y false,ty,pos,af,gd⟩ f ⟨false,[(id,some (some (.opq an (vj P k e n m))))],[],.dat (vint (m l))⟩:=
 xv fun X own g a w h hob=>by
  obtain ⟨b,h1,h2⟩:∃ b,g.bl id=some b∧a.eval x = .map (some b):=by have:=h x (by simp [Op.operands]); rw [hx] at this; exact this
  have h3:=vc (h y (by simp [Op.operands])) hy
  obtain ⟨b',o,q1,_,q2,q3⟩:=hob
  rw [h1] at q1
  cases q1
  have:=(q3 w b q2).look ht.1 ht.2.1 ht.2.2.1 ht.2.2.2 ⟨l.toArray⟩ (z8v hl)
  exact ⟨_,by simp only [execOp,h2,h3,Sem.run_bind,this,Result.andThen_ok,Sem.run_pure],rfl⟩
theorem y2f {an : Option Nat} {o : Oper} {id : Nat} {R R' : Obj → Prop} (h : ∀ (X : Ctx) (own : Own) (g : Gh) (a : Act) (w : World) (b : Nat) (ob : Obj), (∀ x, x ∈ o.op.operands → RepS g w (Mof X g own) (evS f x) (a.eval x)) → g.bl id = some b → w.heap[b]? = some ob → R ob →
      ∃ w' ob', (execOp a.eval o).run P w = .ok .skip w' ∧ Kp [b] w w' ∧ w'.heap[b]? = some ob' ∧ R' ob') :
    Stp P o f ⟨false, [(id, some (some (.opq an R)))], [(id, some (some (.opq an R')))], .any⟩ := by
  refine Qr fun X f' own g a w hr ho hh => ?_
  obtain ⟨b, ob, q1, q0, q2, q3⟩ := hr.ob id _ ho
  obtain ⟨w', ob', r1, r2, r3, r4⟩ := h X own g a w b ob hh q1 q2 q3
  exact ⟨g, w', .skip, undef, Gh.le_refl g, fun i hi => ⟨rfl, fun _ => rfl⟩, r1, .inr ⟨rfl, rfl⟩, .inr ⟨_, b, ho, q1, r2⟩, fun b' hb => .inr ⟨_, ho, hb⟩, fun e size es h => (by cases h), fun M' he => ⟨⟨b, ob', q1, q0, r3, r4⟩, trivial⟩⟩
theorem x4g {an:Option Nat} {t k e:TypeId} {n:Nat} {m:List UInt8→Bool} {x y z:Operand} {id:Nat} {l:List UInt8} {v:Bool} (ht:tyMB P t k e) (hx:evS f x = .mp id) (hy:evS f y = .dat (vstr l)) (hz:evS f z = .dat (zn v)) (hl:l.length≤1000000000) (hn:n < 1000000) :
  Stp P ⟨dst,.mapUpdate t x y z,ty,pos,af,gd⟩ f ⟨false,[(id,some (some (.opq an (z1p P k e n m))))],[(id,some (some (.opq an (z1p P k e (n+1) (updM m l v)))))],.any⟩:=by
 refine y2f fun X own g a w b ob h q1 q2 q3 => ?_
 obtain ⟨b',h1,h2⟩:∃ b,g.bl id=some b∧a.eval x = .map (some b):=by have:=h x (by simp [Op.operands]); rw [hx] at this; exact this
 rw [q1] at h1
 cases h1
 have h3:=vc (h y (by simp [Op.operands])) hy
 have h4:=vc (h z (by simp [Op.operands])) hz
 obtain ⟨w',r1,r2,r3⟩:=(q3 w b q2).store ht.1 ht.2.1 ht.2.2.1 hn ⟨l.toArray⟩ (z8v hl) v
 obtain ⟨D,hD,hD2⟩:=r2
 obtain ⟨ob',hob⟩:=y8r hD
 exact ⟨w',ob',by simp only [execOp,h2,h3,h4,Sem.run_bind,r1,Result.andThen_ok,Sem.run_pure],r3,hob,y8t ⟨D,hD,hD2⟩ hob⟩
theorem z5p {an:Option Nat} {t k e:TypeId} {n:Nat} {m:List UInt8→Int} {x y z:Operand} {id:Nat} {l:List UInt8} {v:Int} (ht:tyMI P t k e) (hx:evS f x = .mp id) (hy:evS f y = .dat (vstr l)) (hz:evS f z = .dat (vint v)) (hl:l.length≤1000000000) (hn:n < 1000000) (hv:-9223372036854775808≤v∧v≤9223372036854775807) :
  Stp P ⟨dst,.mapUpdate t x y z,ty,pos,af,gd⟩ f ⟨false,[(id,some (some (.opq an (vj P k e n m))))],[(id,some (some (.opq an (vj P k e (n+1) (updM m l v)))))],.any⟩:=by
 refine y2f fun X own g a w b ob h q1 q2 q3 => ?_
 obtain ⟨b',h1,h2⟩:∃ b,g.bl id=some b∧a.eval x = .map (some b):=by have:=h x (by simp [Op.operands]); rw [hx] at this; exact this
 rw [q1] at h1
 cases h1
 have h3:=vc (h y (by simp [Op.operands])) hy
 have h4:=vc (h z (by simp [Op.operands])) hz
 obtain ⟨w',r1,r2,r3⟩:=(q3 w b q2).store ht.1 ht.2.1 ht.2.2.1 hn ⟨l.toArray⟩ (z8v hl) v hv
 obtain ⟨D,hD,hD2⟩:=r2
 obtain ⟨ob',hob⟩:=y8r hD
 exact ⟨w',ob',by simp only [execOp,h2,h3,h4,Sem.run_bind,r1,Result.andThen_ok,Sem.run_pure],r3,hob,y8s ⟨D,hD,hD2⟩ hob⟩
end
end Go.Proofs.YtgdijjmdfcgifaaGreat
namespace Go.Proofs.YtgdijjmdfcgifaaGreat
open Go.RowKit
set_option linter.unusedVariables false

def y41 (f:Nat→Slot):List Operand→List V→Prop
 | [],[]=>True
 | x::xs,u::us=>(argV (evS f x) u∨∃ n,x = .func n∧u=vfn n [])∧y41 f xs us
 | _,_=>False
theorem w2a {f:Nat→Slot} {g:Gh} {w:World} {M:Blks} {ev:Operand→Value} (hev:∀ n,ev (.func n) = .func (.func n) #[] #[]):∀ (xs:List Operand) (us:List V),y41 f xs us→(∀ x,x∈xs→RepS g w M (evS f x) (ev x))→Ts w M us (xs.map ev):=by
 intro xs
 induction xs with
 | nil =>
  intro us h _
  cases us with
  | nil=>exact ⟨rfl,fun j u hj=>by simp at hj⟩
  | cons u us=>cases h
 | cons x xs ih =>
  intro us h hv
  cases us with
  | nil=>cases h
  | cons u us =>
   have h2:=ih us h.2 (fun y hy=>hv y (List.mem_cons_of_mem _ hy))
   refine ⟨by simp [h2.1],fun j u' hj => ?_⟩
   cases j with
   | zero =>
    simp at hj; subst hj
    rcases h.1 with h3 | ⟨n,rfl,rfl⟩
    ·exact ⟨_,rfl,y43 h3 (hv x (by simp))⟩
    ·refine ⟨_,rfl,[],?_,rfl,fun j u hj=>by simp at hj⟩
     rw [hev]
   | succ j=>exact h2.2 j u' (by simpa using hj)
section
variable {P:Program} {f:Nat→Slot} {dst:Option Tmp} {ty:TypeId} {pos:String} {af:Array Edge} {gd:Option (Nat×Bool)}
theorem y6r {fn:Nat} {xs:Array Operand} {ts:Array TypeId} {us:List V} {res:V} (hF:Fn P fn us res) (ha:y41 f xs.toList us):Stp P ⟨dst,.call { callee := .value (.func fn),args:=xs,argTypes:=ts },ty,pos,af,gd⟩ f ⟨false,[],[],.dat res⟩:=by
 intro X f' own g a w Q hr hd hx hrd K hK
 unfold Oper.wp
 rw [z1m hF.1 xs ts a.eval rfl w]
 show Calls P fn (xs.map a.eval) w _
 have hT:Ts w (Mof X g own) us (xs.map a.eval).toList:=by
  rw [Array.toList_map]
  exact w2a (fun _=>rfl) xs.toList us ha (fun x hm=>by
   have:=hx x (by simp only [Op.operands,Call.operands]; simp at hm ⊢; exact .inr hm)
   rw [← this]; exact hr.ev x)
 refine (hF.2 _ w _ hr.mlt hT).mono ?_
 rintro e w' ⟨v,rfl,h1,h2⟩
 exact hK g v w' ((hr.grow h2).put _ (.dat res) v hd h1)
end

section
variable {P:Program} {f:Nat→Slot} {dst:Option Tmp} {ty:TypeId} {pos:String} {af:Array Edge} {gd:Option (Nat×Bool)}
theorem yb {o:Oper} {sk:Bool} {rd:List (Nat×Option (Option AObj))} {wr:List (Nat×Option (Option AObj))} {u u':V} (h:Stp P o f ⟨sk,rd,wr,.dat u⟩) (e:u=u'):Stp P o f ⟨sk,rd,wr,.dat u'⟩:=e ▸ h
theorem y6k {t:TypeId} {n off:Nat} {p x:Operand} {id:Nat} {an:Option Nat} {bt:TypeId} {cs:List Slot} {us:List V} (ht:tyS P t=some (true,n)) (hp:evS f p = .ptr id off) (hx:evS f x = .dat (vagg us)) (hn:us.length=n) (hc:Nat.ble (off+n) cs.length=true) :
  Stp P ⟨dst,.store t p x,ty,pos,af,gd⟩ f ⟨false,[(id,some (some (.box an bt cs)))],[(id,some (some (.box an bt (cs.take off++(us.map .dat++cs.drop (off+n))))))],.any⟩:=by
 have hc:=Nat.le_of_ble_eq_true hc
 refine y2m (by simp; omega) fun X own g a w h b l q1 q2 q3 => ?_
 have h2:=h p (by simp [Op.operands])
 have h3:=h x (by simp [Op.operands])
 rw [hp] at h2
 rw [hx] at h3
 obtain ⟨b',r1,r2⟩:=h2
 rw [q1] at r1
 cases r1
 obtain ⟨l',s1,s2⟩:=h3
 have hone:∀ v∈l',v.oneCell'=true:=fun v hv=>by
  obtain ⟨j,hj,rfl⟩:=List.getElem_of_mem hv
  have:j < us.length:=by have:=s2.1; omega
  obtain ⟨x',t1,_,t3⟩:=s2.2 j us[j] (List.getElem?_eq_getElem this)
  rw [List.getElem?_eq_getElem hj] at t1
  cases t1
  exact t3
 obtain ⟨d,i,d1,d2,d3,d4⟩:=kr ht
 have hrun:=run_storeAt_mid (P:=P) w b off t l'.toArray (fun j hj=>by
  have hj':off+j < l.length:=by have:=s2.1; simp at hj; omega
  refine ⟨?_,?_⟩
  ·rw [cell_of_row w b _ _ _ _ q2]; simp [hj']
  ·simp [World.frozen?,q2]) (by rw [d3]; simp [d4,s2.1,hn]) (by simpa using hone)
 have hl':l'.length=n:=by rw [s2.1]; exact hn
 refine ⟨w.setCells b off l',l.take off++l'++l.drop (off+l'.length),by simp only [execOp,r2,s1,Sem.run_bind,hrun,Result.andThen_ok,Sem.run_pure],?_,?_,by simp; omega,fun j s hs => ?_⟩
 ·have key:∀ (vs:List Value) (w1:World) (o:Nat),Kp [b] w w1→Kp [b] w (w1.setCells b o vs):=by
   intro vs
   induction vs with
   | nil=>intro w1 o hk; rw [World.setCells]; exact hk
   | cons v vs ih=>intro w1 o hk; rw [World.setCells]; exact ih _ _ (hk.set_ (.inl (by simp)) v)
  exact key l' w off (Kp.refl _ _)
 ·have key:∀ (vs:List Value) (w1:World) (o:Nat) (pre:List Value),pre.length=o→w1.heap[b]?=some (.cells (pre++l.drop o).toArray bt (0,0))→o+vs.length≤l.length→(w1.setCells b o vs).heap[b]?=some (.cells (pre++vs++l.drop (o+vs.length)).toArray bt (0,0)):=by
   intro vs
   induction vs with
   | nil=>intro w1 o pre hp hb _; rw [World.setCells]; simpa using hb
   | cons v vs ih =>
    intro w1 o pre hp hb hlen
    have hd:l.drop o=l[o]'(by simp at hlen; omega)::l.drop (o+1):=List.drop_eq_getElem_cons (by simp at hlen; omega)
    have h1:=Blk.set_ (show Blk w1 b bt _ from hb) o v
    unfold Blk at h1
    have h2:=ih (w1.setCell ⟨b,o,none⟩ v) (o+1) (pre++[v]) (by simp [hp]) (by
     rw [h1,hd]
     congr 2
     simp only [List.setIfInBounds_toArray]
     congr 1
     rw [List.set_append_right _ _ (by omega),hp,Nat.sub_self,List.set_cons_zero]
     simp) (by simp at hlen ⊢; omega)
    rw [World.setCells]
    simpa [Nat.add_comm,Nat.add_left_comm,Nat.add_assoc] using h2
  exact key l' w off (l.take off) (by simp; omega) (by rw [List.take_append_drop]; exact q2) (by omega)
 ·rcases Nat.lt_or_ge j off with hj | hj
  ·left
   rw [List.getElem?_append_left (by simp; omega),List.getElem?_take,if_pos hj] at hs
   refine ⟨hs,?_⟩
   rw [List.append_assoc,List.getElem?_append_left (by simp; omega),List.getElem?_take,if_pos hj]
  ·have ht:(cs.take off).length=off:=by simp; omega
   rw [List.getElem?_append_right (by omega),ht] at hs
   rcases Nat.lt_or_ge (j - off) n with hj2 | hj2
   ·right
    rw [List.getElem?_append_left (by simp; omega),List.getElem?_map] at hs
    cases hq:us[j - off]? with
    | none=>rw [hq] at hs; cases hs
    | some u =>
     rw [hq] at hs
     cases hs
     obtain ⟨x',t1,t2,t3⟩:=s2.2 (j - off) u hq
     refine ⟨x',?_,t2,t3⟩
     rw [List.append_assoc,List.getElem?_append_right (by simp; omega),List.getElem?_append_left (by simp; omega)]
     have:(l.take off).length=off:=by simp; omega
     rw [this]; exact t1
   ·left
    rw [List.getElem?_append_right (by simp; omega),List.getElem?_drop] at hs
    have e1:off+n+(j - off - (us.map Slot.dat).length)=j:=by simp; omega
    rw [e1] at hs
    refine ⟨hs,?_⟩
    rw [List.getElem?_append_right (by simp; omega),List.getElem?_drop]
    congr 1
    simp; omega
def encL (n:Int):List UInt8:=(Utf8.encode n).data.toList
theorem x4z {s d:TypeId} {x:Operand} {k:IntKind} {n:Int} {ds:TypeDesc} (hs:P.underlying s=some ds) (hds:ds = .int k) (hd:P.underlying d=some .string) (hx:evS f x = .dat (vval (.int k n))):Stp P ⟨dst,.convert s d x,ty,pos,af,gd⟩ f ⟨false,[],[],.dat (vstr (encL n))⟩:=
 ve fun X own g a w h=>by
  have h1:=vc (h x (by simp [Op.operands])) hx
  subst hds
  refine ⟨.string (Utf8.encode n),by simp [execOp,h1,convert,run_underlying hs,run_underlying hd,Conv.intToString],?_⟩
  show Value.string (Utf8.encode n)=Value.string ⟨(encL n).toArray⟩
  congr 1
end
end Go.Proofs.YtgdijjmdfcgifaaGreat
namespace Go.Proofs.YtgdijjmdfcgifaaGreat
open Go.RowKit
set_option linter.unusedVariables false

section
variable {P:Program} {f:Nat→Slot} {dst:Option Tmp} {ty:TypeId} {pos:String} {af:Array Edge} {gd:Option (Nat×Bool)}
theorem Qs {vv:Value} {t e:TypeId} {n m size:Nat} {p:Operand} {id k c:Nat} {es:List (List V)} {el:List V} {u:V} (ht:tyS P t=some (false,n)) (hp:evS f p = .rptr id m size k c) (hm:m=es.length) (he:es[k]?=some el) (hu:el[c]?=some u) :
  Stp P ⟨dst,.load t p,ty,pos,af,gd⟩ f ⟨false,[(id,some (some (.rowA vv e size es)))],[],.dat u⟩:=
 xv fun X own g a w hh hob=>by
  have h2:=hh p (by simp [Op.operands])
  rw [hp] at h2
  obtain ⟨b,cap,h3,h4⟩:=h2
  obtain ⟨xs,q1,q2,q3,q4,q5⟩:=hob
  subst hm
  rw [h3] at q1
  cases q1
  obtain ⟨x,r1,r2,r3⟩:=q5 k c el u he hu
  exact ⟨x,by simp [execOp,h4,z9f (b:=true) ht w _ x (z9l q2 r1)],r2⟩
theorem Ym {vv:Value} {t e:TypeId} {b0:Bool} {m size:Nat} {p x:Operand} {id k c:Nat} {es:List (List V)} {el:List V} {v:V} (ht:tyS P t=some (b0,1)) (hp:evS f p = .rptr id m size k c) (hx:evS f x = .dat v) (h1:v.one=true) (hm:m=es.length) (he:es[k]?=some el) (hc':Nat.blt c el.length=true) :
  Stp P ⟨dst,.store t p x,ty,pos,af,gd⟩ f ⟨false,[(id,some (some (.rowA vv e size es)))],[(id,some (some (.rowA vv e size (es.set k (el.set c v)))))],.any⟩:=by
 have hc:c < el.length:=by simpa [Nat.blt_eq] using hc'
 refine Qr fun X f' own g a w hr ho hh => ?_
 have h2:=hh p (by simp [Op.operands])
 have h3:=hh x (by simp [Op.operands])
 rw [hp] at h2
 rw [hx] at h3
 obtain ⟨b,cap,p1,p2⟩:=h2
 obtain ⟨xs,q1,q2,q3,q4,q5⟩:=hr.ob id _ ho
 subst hm
 rw [p1] at q1
 cases q1
 have hone:=v.hone h1 h3
 have hk:=(List.getElem?_eq_some_iff.1 he).1
 have hel:=q4 el (List.mem_of_getElem? he)
 have hpos:k * size+c < es.length * size:=Yx hk (by omega)
 rcases q2.2 with ⟨e1,_⟩ | ⟨b',cap',cur,e1,e2,e3,e4,e5,e6,e7⟩
 ·cases e1
 ·cases e1
  have hcur:es.length * size≤cap * size:=Nat.mul_le_mul_right _ e4
  have hst:=z9e (P:=P) ht w b (k * size+c) cur.toList e (a.eval x) (by simpa using e3) (by simp; omega) hone
  refine ⟨g,w.setCell ⟨b,k * size+c,none⟩ (a.eval x),.skip,undef,Gh.le_refl g,fun i hi=>⟨rfl,fun _=>rfl⟩,?_,.inr ⟨rfl,rfl⟩,.inr ⟨_,b,ho,by simp only [obk]; rfl,(Kp.refl [b] w).set_ (.inl (by simp)) _⟩,fun b' hb => .inr ⟨_,ho,?_⟩,fun e' s' es' h k' hk' => ?_,fun M' he'=>⟨⟨xs.set (k * size+c) (a.eval x),?_,⟨?_,.inr ⟨b,cap,cur.setIfInBounds (k * size+c) (a.eval x),by simp,e2,?_,by simpa using e4,e5,by simpa using e6,?_⟩⟩,q3,fun el' hel' => ?_,fun k' c' el' u' hk' hc' => ?_⟩,trivial⟩⟩
  ·simp only [execOp,p2,Sem.run_bind,hst,Result.andThen_ok,Sem.run_pure]
  ·exact hb
  ·cases h
  ·rw [List.length_set]; exact p1
  ·simp [q2.1]
  ·have:=Blk.set_ (show Blk w b e cur from e3) (k * size+c) (a.eval x)
   exact this
  ·rw [Array.toList_setIfInBounds,List.length_set,List.take_set,e7]
  ·rcases List.mem_or_eq_of_mem_set hel' with h | rfl
   ·exact q4 el' h
   ·simpa using hel
  ·rw [List.getElem?_set] at hk'
   by_cases hkk:k=k'
   ·subst hkk
    rw [if_pos rfl,if_pos hk] at hk'
    cases hk'
    rw [List.getElem?_set] at hc'
    by_cases hcc:c=c'
    ·subst hcc
     rw [if_pos rfl,if_pos hc] at hc'
     cases hc'
     exact ⟨a.eval x,by rw [List.getElem?_set_self (by rw [q2.1]; exact hpos)],v.keep he' h3,hone⟩
    ·rw [if_neg hcc] at hc'
     obtain ⟨y,r1,r2,r3⟩:=q5 k c' el u' he hc'
     exact ⟨y,by rw [List.getElem?_set_ne (by omega)]; exact r1,u'.keep he' r2,r3⟩
   ·rw [if_neg hkk] at hk'
    obtain ⟨y,r1,r2,r3⟩:=q5 k' c' el' u' hk' hc'
    refine ⟨y,?_,u'.keep he' r2,r3⟩
    have hc2:=(List.getElem?_eq_some_iff.1 hc').1
    have hel2:=q4 el' (List.mem_of_getElem? hk')
    rw [List.getElem?_set_ne]
    ·exact r1
    ·intro heq
     have h5:(k * size+c) / size=(k' * size+c') / size:=by rw [heq]
     rw [Nat.mul_comm k,Nat.mul_comm k',Nat.mul_add_div q3,Nat.mul_add_div q3,Nat.div_eq_of_lt (by omega),Nat.div_eq_of_lt (by omega)] at h5
     omega

end

section
variable {P:Program} {f:Nat→Slot} {dst:Option Tmp} {ty:TypeId} {pos:String} {af:Array Edge} {gd:Option (Nat×Bool)}
end
end Go.Proofs.YtgdijjmdfcgifaaGreat
namespace Go.Proofs.YtgdijjmdfcgifaaGreat
open Go.RowKit
set_option linter.unusedVariables false

def qF (P : Program) : List Field → Nat → Option (List TypeDesc)
  | [], _ => some []
  | f :: fs, i => if f.name ≠ "_" ∧ f.offset = i ∧ tyS P f.type = some (false, 1) then (P.underlying f.type).bind fun d => (qF P fs (i + 1)).map (d :: ·) else none
def tyQ (P:Program) (t:TypeId):Option (List TypeDesc):=
 match P.underlying t with
 | some (.struct fs)=>if P.stoodInHeld t=false∧P.eqGuardType P.depth t=false then qF P fs.toList 0 else none
 | _=>none
theorem y5u {P:Program} {t:TypeId} {ks:List TypeDesc} (h:tyQ P t=some ks):P.stoodInHeld t=false∧P.eqGuardType P.depth t=false∧P.underlying t=some (.struct (P.fieldsOf t))∧qF P (P.fieldsOf t).toList 0=some ks:=by
 unfold tyQ at h
 split at h
 ·rename_i fs hu
  split at h
  ·rename_i hq
   have:P.fieldsOf t=fs:=by simp [Program.fieldsOf,hu]
   rw [this]
   exact ⟨hq.1,hq.2,hu,h⟩
  ·cases h
 ·cases h
def eqV:TypeDesc→Value→Value→Option Bool
 | .bool,.bool a,.bool b=>some (a == b)
 | .int _,.int k a,.int k' b=>if k=k' then some (a == b) else none
 | .string,.string a,.string b=>some (a.data.toList == b.data.toList)
 | _,_,_=>none
def eqVs:List TypeDesc→List Value→List Value→Option Bool
 | [],_,_=>some true
 | d::ds,a::as1,b::bs=>(eqV d a b).bind fun r=>(eqVs ds as1 bs).map (r && ·)
 | _,_,_=>none
theorem x5t {P:Program} {t:TypeId} {d:TypeDesc} {a b:Value} {r:Bool} (w:World) (n:Nat) (ht:P.underlying t=some d) (h:eqV d a b=some r):(Op.equalIn (n+1) t a b).run P w = .ok r w:=by
 unfold eqV at h
 split at h
 ·cases h; simp [Op.equalIn,run_underlying ht]
 ·split at h
  ·rename_i hk; subst hk; cases h; simp [Op.equalIn,run_underlying ht]
  ·cases h
 ·cases h
  rename_i x y
  have:=run_equalIn_string w n t x y ht
  rw [this,ByteArray.toList_eq,ByteArray.toList_eq]
 ·cases h
theorem y7e {P:Program} {t:TypeId} {n:Nat} (ht:tyS P t=some (false,n)) (xs:Array Value) (i:Nat) (v:Value) (hv:xs[i]?=some v) (w:World):(part t xs i).run P w = .ok v w:=by
 obtain ⟨d,i',d1,d2,d3,d4⟩:=kr ht
 have hagg:(isAgg t).run P w = .ok false w:=by
  unfold isAgg
  rw [Sem.run_bind,run_underlying d1 w]
  cases d <;> simp_all
 simp [part,hagg,hv]
theorem y7g {P:Program} (w:World) (n:Nat) (xs ys:Array Value):∀ (fs:List Field) (i:Nat) (ds:List TypeDesc) (as1 bs:List Value) (r:Bool),qF P fs i=some ds→eqVs ds as1 bs=some r→(∀ j v,as1[j]?=some v→xs[i+j]?=some v)→(∀ j v,bs[j]?=some v→ys[i+j]?=some v) →
  (Op.eqFields (n+1) xs ys fs).run P w = .ok r w:=by
 intro fs
 induction fs with
 | nil=>intro i ds as1 bs r h1 h2 _ _; cases h1; simp only [eqVs] at h2; cases h2; simp [Op.eqFields]
 | cons f fs ih =>
  intro i ds as1 bs r h1 h2 hx hy
  unfold qF at h1
  split at h1
  ·rename_i hf
   obtain ⟨f1,f2,f3⟩:=hf
   cases hu:P.underlying f.type with
   | none=>rw [hu] at h1; cases h1
   | some d =>
    rw [hu] at h1
    cases hq:qF P fs (i+1) with
    | none=>rw [hq] at h1; cases h1
    | some ds' =>
     rw [hq] at h1
     cases h1
     cases as1 with
     | nil=>simp [eqVs] at h2
     | cons a as1 =>
      cases bs with
      | nil=>simp [eqVs] at h2
      | cons b bs =>
       simp only [eqVs] at h2
       cases he:eqV d a b with
       | none=>rw [he] at h2; cases h2
       | some r1 =>
        rw [he] at h2
        cases hr:eqVs ds' as1 bs with
        | none=>rw [hr] at h2; cases h2
        | some r2 =>
         rw [hr] at h2
         cases h2
         have p1:=y7e f3 xs i a (by simpa using hx 0 a rfl) w
         have p2:=y7e f3 ys i b (by simpa using hy 0 b rfl) w
         have p3:=x5t w n hu he
         have p4:=ih (i+1) ds' as1 bs r2 hq hr (fun j v h=>by have:=hx (j+1) v (by simpa using h); rw [← this]; congr 1; omega) (fun j v h=>by have:=hy (j+1) v (by simpa using h); rw [← this]; congr 1; omega)
         simp only [Op.eqFields,if_pos f1,f2,Sem.run_bind,p1,p2,p3,Result.andThen_ok]
         cases r1
         ·simp
         ·simpa using p4
  ·cases h1
section
variable {P:Program} {f:Nat→Slot} {dst:Option Tmp} {ty:TypeId} {pos:String} {af:Array Edge} {gd:Option (Nat×Bool)}
theorem y1m {w:World} {M:Blks} {as1:List Value} {v:Value} (h:(vagg (as1.map vval)).p w M v):v = .agg as1.toArray:=by
 obtain ⟨l,rfl,h1,h2⟩:=h
 have:l=as1:=by
  apply List.ext_getElem?
  intro j
  cases hj:as1[j]? with
  | none =>
   rw [List.getElem?_eq_none_iff] at hj ⊢
   simpa [h1] using hj
  | some v =>
   obtain ⟨x,q1,q2,_⟩:=h2 j (vval v) (by simp [hj])
   have q2:x=v:=q2
   rw [q1,q2]
 rw [this]
theorem x45 {t t':TypeId} {x y:Operand} {ks:List TypeDesc} {r:Bool} (as1 bs:List Value) (ht:tyQ P t=some ks) (hx:evS f x = .dat (vagg (as1.map vval))) (hy:evS f y = .dat (vagg (bs.map vval))) (hr:eqVs ks as1 bs=some r):Stp P ⟨dst,.binOp .neq t x y t',ty,pos,af,gd⟩ f ⟨false,[],[],.dat (zn (!r))⟩:=
 ve fun X own g a w h=>by
  have h1:=h x (by simp [Op.operands])
  have h2:=h y (by simp [Op.operands])
  rw [hx] at h1
  rw [hy] at h2
  have h1:=y1m h1
  have h2:=y1m h2
  have hq:=y5u ht
  refine ⟨.bool (!r),?_,rfl⟩
  have h3:=y7g w 9998 as1.toArray bs.toArray _ 0 ks as1 bs r hq.2.2.2 hr (fun j v h=>by simpa using h) (fun j v h=>by simpa using h)
  have h4:=run_equalIn_struct w 9999 t as1.toArray bs.toArray hq.2.2.1 hq.1
  simp only [execOp,h1,h2,Sem.run_bind,run_eqGuard_agg w _ t x y _ _ hq.2.1,Result.andThen_ok,run_neq_struct]
  rw [h4,h3]
  rfl
end
end Go.Proofs.YtgdijjmdfcgifaaGreat
namespace Go.Proofs.YtgdijjmdfcgifaaGreat
set_option linter.unusedVariables false

theorem Z {α:Sort _} {a:α}:a=a:=rfl
theorem U:True:=trivial
abbrev Bs:=List UInt8
abbrev wr (n:Int):Int:=IntKind.i64.wrap n
theorem qy {n:Int} (h:-9223372036854775808≤n∧n≤9223372036854775807):wr n=n:=IntWalk.i64_in n h
theorem x1r {k:Nat} (h:k≤1000000000):wr ((k:Int)+1)=((k+1:Nat):Int):=by
 rw [qy (by omega)]; omega

section
variable {α β σ ρ:Type}
def at? (l:List α) (m:Int):Option α:=if 0≤m then l[m.toNat]? else none
theorem vz (l:List α) (k:Nat):at? l (k:Int)=l[k]?:=by simp [at?]
theorem yp {l:List α} {m:Int} {x:α} (h:at? l m=some x):(0≤m∧m < (l.length:Int))∧l[m.toNat]?=some x:=by
 unfold at? at h
 split at h
 ·obtain ⟨h1,_⟩:=List.getElem?_eq_some_iff.1 h
  exact ⟨⟨by assumption,by omega⟩,h⟩
 ·cases h
def sub? (l:List α) (a b:Int):Option (List α):=if 0≤a∧a≤b∧b≤(l.length:Int) then some ((l.drop a.toNat).take (b.toNat - a.toNat)) else none
theorem wq {l:List α} {k:Nat} {x:α} (h:l[k]?=some x):k < l.length:=(List.getElem?_eq_some_iff.1 h).1
theorem bnd {o:Option α} {f:α→Option β} {r:β} (h:o.bind f=some r):∃ x,o=some x∧f x=some r:=by
 cases o with
 | none=>cases h
 | some x=>exact ⟨x,rfl,h⟩
theorem gif {c:Prop} [Decidable c] {a:Option α} {r:α} (h:(if c then a else none)=some r):c∧a=some r:=by
 split at h
 ·exact ⟨by assumption,h⟩
 ·cases h
theorem ift {b:Bool} {x y r:Option α} (hb:b=true) (h:(if b=true then x else y)=r):x=r:=by rw [if_pos hb] at h; exact h
theorem iff_ {b:Bool} {x y r:Option α} (hb:b=false) (h:(if b=true then x else y)=r):y=r:=by rw [if_neg (by rw [hb]; decide)] at h; exact h
def after (K:σ→Option ρ):σ ⊕ ρ→Option ρ
 | .inl s=>K s
 | .inr r=>some r
def forL (body:Nat→α→σ→Option (σ ⊕ ρ)) (fin:σ→Option ρ):Nat→List α→σ→Option ρ
 | _,[],s=>fin s
 | k,x::l,s=>(body k x s).bind (after (forL body fin (k+1) l))
def rng (body:Nat→σ→Option (σ ⊕ ρ)) (fin:σ→Option ρ):Nat→Nat→σ→Option ρ
 | 0,_,s=>fin s
 | n+1,k,s=>(body k s).bind (after (rng body fin n (k+1)))
def itN (body:σ→Option (σ ⊕ ρ)):Nat→σ→Option ρ
 | 0,_=>none
 | n+1,s=>(body s).bind (after (itN body n))
open Classical in
noncomputable def iter (body:σ→Option (σ ⊕ ρ)) (s:σ):Option ρ:=if h:∃ n r,itN body n s=some r then some h.choose_spec.choose else none
theorem y9u {body:σ→Option (σ ⊕ ρ)}:∀ (n m:Nat) (s:σ) (r:ρ),itN body n s=some r→n≤m→itN body m s=some r:=by
 intro n
 induction n with
 | zero=>intro m s r h; cases h
 | succ n ih =>
  intro m s r h hm
  obtain ⟨m,rfl⟩:∃ q,m=q+1:=⟨m - 1,by omega⟩
  obtain ⟨q,h1,h2⟩:=bnd h
  show (body s).bind _=_
  rw [h1]
  cases q with
  | inl s'=>exact ih m s' r h2 (by omega)
  | inr r'=>exact h2
theorem Yv {body:σ→Option (σ ⊕ ρ)} {s:σ} {r:ρ}:iter body s=some r↔∃ n,itN body n s=some r:=by
 unfold iter
 constructor
 ·intro h
  split at h
  ·rename_i hx
   injection h with h
   subst h
   exact ⟨_,hx.choose_spec.choose_spec⟩
  ·cases h
 ·rintro ⟨n,hn⟩
  have hx:∃ n r,itN body n s=some r:=⟨n,r,hn⟩
  rw [dif_pos hx]
  have h1:=hx.choose_spec.choose_spec
  have h2:=y9u _ (max n hx.choose) s _ hn (Nat.le_max_left _ _)
  have h3:=y9u _ (max n hx.choose) s _ h1 (Nat.le_max_right _ _)
  rw [h2] at h3
  exact h3.symm
theorem y9t (body:σ→Option (σ ⊕ ρ)) (s:σ):iter body s=(body s).bind (after (iter body)):=by
 apply Option.ext
 intro r
 constructor
 ·intro h
  obtain ⟨n,hn⟩:=Yv.1 h
  cases n with
  | zero=>cases hn
  | succ n =>
   obtain ⟨q,h1,h2⟩:=bnd hn
   rw [h1]
   cases q with
   | inl s'=>exact Yv.2 ⟨n,h2⟩
   | inr r'=>exact h2
 ·intro h
  obtain ⟨q,h1,h2⟩:=bnd h
  cases q with
  | inl s' =>
   obtain ⟨n,hn⟩:=Yv.1 h2
   exact Yv.2 ⟨n+1,by show (body s).bind _=_; rw [h1]; exact hn⟩
  | inr r'=>exact Yv.2 ⟨1,by show (body s).bind _=_; rw [h1]; exact h2⟩
theorem bE {o:Option α} {f:α→Option β} {r:β} {G:Prop} (h:o.bind f=some r) (k:∀ x,o=some x→f x=some r→G):G:=let ⟨x,a,b⟩:=bnd h; k x a b
theorem gE {c:Prop} [Decidable c] {a:Option α} {r:α} {G:Prop} (h:(if c then a else none)=some r) (k:c→a=some r→G):G:=k (gif h).1 (gif h).2
theorem tE {b:Bool} {x y r:Option α} {G:Prop} (hb:b=true) (h:(if b=true then x else y)=r) (k:x=r→G):G:=k (ift hb h)
theorem fE {b:Bool} {x y r:Option α} {G:Prop} (hb:b=false) (h:(if b=true then x else y)=r) (k:y=r→G):G:=k (iff_ hb h)
theorem hE {a G:Prop} (h:a) (k:a→G):G:=k h
theorem outl {E:Option ρ} {q:σ ⊕ ρ} {r:ρ} (H:E.map .inr=some q) (hq:∀ r',q = .inr r'→r'=r):E=some r:=by
 cases E with
 | none=>cases H
 | some e=>injection H with H; rw [hq e H.symm]
theorem retl {e:ρ} {q:σ ⊕ ρ} {r:ρ} (H:some (.inr e)=some q) (hq:∀ r',q = .inr r'→r'=r):some e=some r:=by
 injection H with H; rw [hq e H.symm]
theorem qx {s:σ} {q:σ ⊕ ρ} (H:some (.inl s)=some q):q = .inl s:=by injection H with H; exact H.symm
theorem lt_t {n:Nat} (h:decide ((n:Int) < (n:Int))=true):False:=by simp at h
theorem lt_f {k n:Nat} (hk:k < n) (h:decide ((k:Int) < (n:Int))=false):False:=by simp at h; omega
theorem z37 {m:Int} (h:decide ((m.toNat:Int) < m)=true):False:=by simp at h; omega
theorem z38 {k:Nat} {m:Int} (hk:k < m.toNat) (h:decide ((k:Int) < m)=false):False:=by simp at h; omega
def upm (m:Bs→α) (k:Bs) (v:α):Bs→α:=fun q=>if q=k then v else m q
theorem y1b {l:List α} {k:Nat} {x:α} {xs:List α} (h:l.drop k=x::xs):k < l.length∧l[k]?=some x∧l.drop (k+1)=xs:=by
 have h1:k < l.length:=by
  rcases Nat.lt_or_ge k l.length with h1 | h1
  ·exact h1
  ·rw [List.drop_eq_nil_of_le h1] at h; cases h
 rw [List.drop_eq_getElem_cons h1] at h
 injection h with h2 h3
 exact ⟨h1,by rw [List.getElem?_eq_getElem h1,h2],h3⟩
end
end Go.Proofs.YtgdijjmdfcgifaaGreat
namespace Go.Proofs.YtgdijjmdfcgifaaGreat
open Go.RowKit
set_option linter.unusedVariables false

def Wk (u u':V):Prop:=∀ w M v,u.p w M v→u'.p w M v
theorem y5d:Wk vnil (vlst []):=fun w M v h=>⟨none,0,h,Nat.le_refl _,fun h=>absurd rfl h⟩
section
variable {P:Program} {X:Ctx} {Q:Exit→(Nat→Slot)→Own→Prop} {f:Nat→Slot} {own:Own}

theorem Rel.wk {g:Gh} {a:Act} {w:World} {u u':V} {t:Nat} (h:Rel X f own g a w) (hf:f t = .dat u) (hw:Wk u u'):Rel X (updS f (some t) (.dat u')) own g a w:=by
 refine ⟨h.kp,h.m0,h.n,h.df,fun s => ?_,h.ob,h.sep,h.mine,h.fresh,h.top⟩
 have h1:=h.fr s
 by_cases hs:s=t
 ·subst hs
  have e1:Nat.beq s s=true:=by simp
  simp only [updS,e1,cond_true]
  rw [hf] at h1
  exact hw _ _ _ h1
 ·simp only [updS,qu hs,cond_false]
  exact h1
theorem x1y (f:Nat→Slot) (t:Nat) (s s':Slot):updS (updS f (some t) s) (some t) s'=updS f (some t) s':=by
 funext x
 simp only [updS]
 cases Nat.beq x t <;> rfl
theorem x3y {o:Oper} {sk:Bool} {rd wr:List (Nat×Option (Option AObj))} {u u':V} (hw:Wk u u') (h:Stp P o f ⟨sk,rd,wr,.dat u⟩):Stp P o f ⟨sk,rd,wr,.dat u'⟩:=by
 intro X f' own g a w Q hr hd hx hrd K hK
 refine h X f' own g a w Q hr hd hx hrd K fun g' v w' hr'=>hK g' v w' ?_
 cases hds:o.dst with
 | none=>rw [hds] at hr'; exact hr'
 | some d =>
  rw [hds] at hr'
  have h2:=hr'.wk (t:=d) (u:=u) (u':=u') (by simp [updS]) hw
  rw [x1y] at h2
  exact h2
theorem qi {ι:Type} {x y:Code} (F:ι→List (Nat×Slot)) (O:ι→List (Nat×AObj)) (I:ι→Prop) (hok:∀ i,okL (F i) (O i)=true)
  (hx:AWP P X x (fun e f own=>match e with | .normal=>∃ i,I i∧subF f (F i)∧subO own (O i) | e=>Q e f own) f own)
  (hy:∀ i,I i→AWP P X y Q (frs (F i)) (ows (O i))):AWP P X (.seq x y) Q f own:=by
 intro g a w hr
 refine wpIn_seq (wpIn_mono (hx g a w hr) ?_)
 rintro e a' w' ⟨f',own',g',h1,h2⟩
 cases e with
 | normal =>
  obtain ⟨i,hi,hs,ho⟩:=h2
  obtain ⟨g'',h3⟩:=h1.less (F i) (O i) hs ho (hok i)
  exact hy i hi g'' a' w' h3
 | exit id=>exact ⟨f',own',g',h1,h2⟩
 | goto l=>exact ⟨f',own',g',h1,h2⟩
 | ret=>exact ⟨f',own',g',h1,h2⟩
 | panic ch=>exact ⟨f',own',g',h1,h2⟩
 | outgrown=>exact ⟨f',own',g',h1,h2⟩

section
variable {α σ ρ:Type} {c:Code}
theorem z0x {body:σ→Option (σ ⊕ ρ)} {r:ρ} (F:σ→List (Nat×Slot)) (O:σ→List (Nat×AObj)) (s0:σ) (H:iter body s0=some r) (hf:subF f (F s0)) (ho:subO own (O s0)) (hok:∀ s,okL (F s) (O s)=true)
  (round:∀ s q,body s=some q→(∀ r',q = .inr r'→r'=r)→AWP P X c (fun e f own=>match e with | .normal=>∃ s',q = .inl s'∧subF f (F s')∧subO own (O s') | e=>Q e f own) (frs (F s)) (ows (O s))):AWP P X (.loop c) Q f own:=by
 obtain ⟨n,hn⟩:=Yv.1 H
 refine Wp (ι:=Nat×σ) (fun i=>F i.2) (fun i=>O i.2) (fun i=>itN body i.1 i.2=some r) (fun i=>i.1) (n,s0) hn hf ho (fun i=>hok i.2) ?_
 rintro ⟨n,s⟩ hI
 cases n with
 | zero=>cases hI
 | succ n =>
  obtain ⟨q,h1,h2⟩:=bnd hI
  refine Qc (round s q h1 fun r' hq=>by subst hq; injection h2) ?_
  intro e f own hQ
  cases e with
  | normal =>
   obtain ⟨s',h3,h4,h5⟩:=hQ
   subst h3
   exact ⟨(n,s'),h2,Nat.lt_succ_self _,h4,h5⟩
  | exit id=>exact hQ
  | goto l=>exact hQ
  | ret=>exact hQ
  | panic ch=>exact hQ
  | outgrown=>exact hQ
theorem z2i {body:Nat→σ→Option (σ ⊕ ρ)} {fin:σ→Option ρ} {r:ρ} {n:Nat} (F:Nat→σ→List (Nat×Slot)) (O:Nat→σ→List (Nat×AObj)) (s0:σ) (H:rng body fin n 0 s0=some r) (hf:subF f (F 0 s0)) (ho:subO own (O 0 s0)) (hok:∀ k s,okL (F k s) (O k s)=true)
  (stop:∀ s,fin s=some r→AWP P X c (fun e f own=>match e with | .normal=>False | e=>Q e f own) (frs (F n s)) (ows (O n s)))
  (round:∀ k s q,k < n→body k s=some q→(∀ r',q = .inr r'→r'=r)→AWP P X c (fun e f own=>match e with | .normal=>∃ s',q = .inl s'∧subF f (F (k+1) s')∧subO own (O (k+1) s') | e=>Q e f own) (frs (F k s)) (ows (O k s))):AWP P X (.loop c) Q f own:=by
 refine Wp (ι:=Nat×Nat×σ) (fun i=>F i.2.1 i.2.2) (fun i=>O i.2.1 i.2.2) (fun i=>i.1+i.2.1=n∧rng body fin i.1 i.2.1 i.2.2=some r) (fun i=>i.1) (n,0,s0) ⟨rfl,H⟩ hf ho (fun i=>hok i.2.1 i.2.2) ?_
 rintro ⟨m,k,s⟩ ⟨hn,hI⟩
 cases m with
 | zero =>
  have hk:k=n:=by simpa using hn
  subst hk
  refine Qc (stop s hI) ?_
  intro e f own hQ
  cases e with
  | normal=>exact hQ.elim
  | exit id=>exact hQ
  | goto l=>exact hQ
  | ret=>exact hQ
  | panic ch=>exact hQ
  | outgrown=>exact hQ
 | succ m =>
  obtain ⟨q,h1,h2⟩:=bnd hI
  simp only at hn
  refine Qc (round k s q (by omega) h1 fun r' hq=>by subst hq; injection h2) ?_
  intro e f own hQ
  cases e with
  | normal =>
   obtain ⟨s',h3,h4,h5⟩:=hQ
   subst h3
   exact ⟨(m,k+1,s'),⟨by simp only; omega,h2⟩,Nat.lt_succ_self _,h4,h5⟩
  | exit id=>exact hQ
  | goto l=>exact hQ
  | ret=>exact hQ
  | panic ch=>exact hQ
  | outgrown=>exact hQ
theorem wg {l:List α} {body:Nat→α→σ→Option (σ ⊕ ρ)} {fin:σ→Option ρ} {r:ρ} (F:Nat→σ→List (Nat×Slot)) (O:Nat→σ→List (Nat×AObj)) (s0:σ) (H:forL body fin 0 l s0=some r) (hf:subF f (F 0 s0)) (ho:subO own (O 0 s0)) (hok:∀ k s,okL (F k s) (O k s)=true)
  (stop:∀ s,fin s=some r→AWP P X c (fun e f own=>match e with | .normal=>False | e=>Q e f own) (frs (F l.length s)) (ows (O l.length s)))
  (round:∀ k x s q,k < l.length→l[k]?=some x→body k x s=some q→(∀ r',q = .inr r'→r'=r)→AWP P X c (fun e f own=>match e with | .normal=>∃ s',q = .inl s'∧subF f (F (k+1) s')∧subO own (O (k+1) s') | e=>Q e f own) (frs (F k s)) (ows (O k s))):AWP P X (.loop c) Q f own:=by
 refine Wp (ι:=List α×Nat×σ) (fun i=>F i.2.1 i.2.2) (fun i=>O i.2.1 i.2.2) (fun i=>i.2.1≤l.length∧l.drop i.2.1=i.1∧forL body fin i.2.1 i.1 i.2.2=some r) (fun i=>i.1.length) (l,0,s0) ⟨Nat.zero_le _,rfl,H⟩ hf ho (fun i=>hok i.2.1 i.2.2) ?_
 rintro ⟨xs,k,s⟩ ⟨hkl,hn,hI⟩
 cases xs with
 | nil =>
  have hk:k=l.length:=by
   have:=congrArg List.length hn
   simp only [List.length_drop,List.length_nil] at this
   simp only at hkl
   omega
  subst hk
  refine Qc (stop s hI) ?_
  intro e f own hQ
  cases e with
  | normal=>exact hQ.elim
  | exit id=>exact hQ
  | goto l=>exact hQ
  | ret=>exact hQ
  | panic ch=>exact hQ
  | outgrown=>exact hQ
 | cons x xs =>
  obtain ⟨q,h1,h2⟩:=bnd hI
  obtain ⟨d1,d2,d3⟩:=y1b hn
  refine Qc (round k x s q d1 d2 h1 fun r' hq=>by subst hq; injection h2) ?_
  intro e f own hQ
  cases e with
  | normal =>
   obtain ⟨s',h3,h4,h5⟩:=hQ
   subst h3
   exact ⟨(xs,k+1,s'),⟨d1,d3,h2⟩,by simp,h4,h5⟩
  | exit id=>exact hQ
  | goto l=>exact hQ
  | ret=>exact hQ
  | panic ch=>exact hQ
  | outgrown=>exact hQ
end
end

section
variable {P:Program} {f:Nat→Slot} {dst:Option Tmp} {ty:TypeId} {pos:String} {af:Array Edge} {gd:Option (Nat×Bool)}
variable {α:Type} {C:α→List V} {xs ys:List α}
theorem yz {k:Nat} {x:α} (h:xs[k]?=some x):(xs.map C)[k]?=some (C x):=by rw [List.getElem?_map,h]; rfl
theorem jt {k:Nat} {x y:α} (h:xs[k]?=some x):(xs.set k y)[k]?=some y:=by rw [List.getElem?_set_self (wq h)]
theorem z9t {n:Nat} (hC:∀ y,(C y).length=n):∀ el,el∈xs.map C→el.length=n:=by
 intro el h; obtain ⟨p,_,rfl⟩:=List.mem_map.1 h; exact hC p
theorem wb {t e:TypeId} {n:Nat} {x ix:Operand} {k:Nat} {y:α} (h:tyE P t=some (e,n)) (hC:∀ y,(C y).length=n) (hx:evS f x = .dat (vlst (xs.map C))) (hi:evS f ix = .dat (vint (k:Int))) (hk:xs[k]?=some y) :
  Stp P ⟨dst,.indexAddr t x ix,ty,pos,af,gd⟩ f ⟨false,[],[],.dat (zx (xs.map C) k 0)⟩:=
 y6q h hx hi (by rw [List.length_map]; exact wq hk) (z9t hC)
theorem js {t e:TypeId} {n:Nat} {x ix:Operand} {m:Int} {y:α} (h:tyE P t=some (e,n)) (hC:∀ y,(C y).length=n) (hx:evS f x = .dat (vlst (xs.map C))) (hi:evS f ix = .dat (vint m)) (hk:at? xs m=some y) :
  Stp P ⟨dst,.indexAddr t x ix,ty,pos,af,gd⟩ f ⟨false,[],[],.dat (zx (xs.map C) m.toNat 0)⟩:=
 x4w h hx hi (by rw [List.length_map]; exact (yp hk).1) (z9t hC)
theorem yx {x:Operand} {t e:TypeId} (ht:P.underlying t=some (.slice e)) (hx:evS f x = .dat (vlst (xs.map C))):Stp P ⟨dst,.call { callee := .builtin .len,args := #[x],argTypes := #[t] },ty,pos,af,gd⟩ f ⟨false,[],[],.dat (vint (xs.length:Int))⟩:=
 yb (x4s ht hx) (by rw [List.length_map])
theorem xt {x:Operand} {t e:TypeId} {id n:Nat} {e':TypeId} {size:Nat} (ht:P.underlying t=some (.slice e)) (hx:evS f x = .row id n) (hn:n=xs.length) :
  Stp P ⟨dst,.call { callee := .builtin .len,args := #[x],argTypes := #[t] },ty,pos,af,gd⟩ f ⟨false,[(id,some (some (.row e' size (xs.map C))))],[],.dat (vint (xs.length:Int))⟩:=
 yb (x4r ht hx (by rw [List.length_map]; exact hn)) (by rw [List.length_map])
theorem z5o {t e e':TypeId} {n n':Nat} {x ix:Operand} {id k:Nat} {y:α} (h:tyE P t=some (e,n')) (hx:evS f x = .row id n) (hn:n=xs.length) (hi:evS f ix = .dat (vint (k:Int))) (hk:xs[k]?=some y) :
  Stp P ⟨dst,.indexAddr t x ix,ty,pos,af,gd⟩ f ⟨false,[(id,some (some (.row e' n' (xs.map C))))],[],.rptr id n n' k 0⟩:=
 y6p h hx hi (by rw [List.length_map]; exact hn) (by rw [List.length_map]; exact wq hk)
theorem Yl {t e e':TypeId} {n n':Nat} {x ix:Operand} {id:Nat} {m:Int} {y:α} (h:tyE P t=some (e,n')) (hx:evS f x = .row id n) (hn:n=xs.length) (hi:evS f ix = .dat (vint m)) (hk:at? xs m=some y) :
  Stp P ⟨dst,.indexAddr t x ix,ty,pos,af,gd⟩ f ⟨false,[(id,some (some (.row e' n' (xs.map C))))],[],.rptr id n n' m.toNat 0⟩:=
 x4v h hx hi (by rw [List.length_map]; exact hn) (by rw [List.length_map]; exact (yp hk).1)
theorem xr {t e:TypeId} {n m size:Nat} {p:Operand} {id k c:Nat} {y:α} {u:V} (ht:tyS P t=some (false,n)) (hp:evS f p = .rptr id m size k c) (hm:m=xs.length) (he:xs[k]?=some y) (hu:(C y)[c]?=some u) :
  Stp P ⟨dst,.load t p,ty,pos,af,gd⟩ f ⟨false,[(id,some (some (.row e size (xs.map C))))],[],.dat u⟩:=
 x4p ht hp (by rw [List.length_map]; exact hm) (yz he) hu
theorem x3o {t e:TypeId} {n m size:Nat} {p:Operand} {id k:Nat} {y:α} (ht:tyS P t=some (true,n)) (hp:evS f p = .rptr id m size k 0) (hm:m=xs.length) (he:xs[k]?=some y) (hn:size=n) :
  Stp P ⟨dst,.load t p,ty,pos,af,gd⟩ f ⟨false,[(id,some (some (.row e size (xs.map C))))],[],.dat (vagg (C y))⟩:=
 x4o ht hp (by rw [List.length_map]; exact hm) (yz he) hn
theorem kz {t e:TypeId} {b0:Bool} {m size:Nat} {p x:Operand} {id k c:Nat} {y:α} (y':α) {v:V} (ht:tyS P t=some (b0,1)) (hp:evS f p = .rptr id m size k c) (hx:evS f x = .dat v) (h1:v.one=true) (hm:m=xs.length) (he:xs[k]?=some y) (hc':Nat.blt c (C y).length=true) (hy:(C y).set c v=C y') :
  Stp P ⟨dst,.store t p x,ty,pos,af,gd⟩ f ⟨false,[(id,some (some (.row e size (xs.map C))))],[(id,some (some (.row e size ((xs.set k y').map C))))],.any⟩:=by
 have h:=x38 (dst:=dst) (ty:=ty) (pos:=pos) (af:=af) (gd:=gd) (e:=e) ht hp hx h1 (by rw [List.length_map]; exact hm) (yz (C:=C) he) hc'
 rw [hy,← List.map_set] at h
 exact h
theorem jo {t e:TypeId} {size bytes:Nat} {x y:Operand} {id n:Nat} (hE:Elem P t e size bytes) (hC:∀ y,(C y).length=size) (hx:evS f x = .row id n) (hn:n=xs.length) (hy:evS f y = .dat (vlst (ys.map C))) (hlen:ys≠[]∧xs.length+ys.length≤1000000000) (hby:Nat.ble bytes 140737=true) :
  Stp P ⟨dst,.call { callee := .builtin .append,args := #[x,y],argTypes := #[t,t] },ty,pos,af,gd⟩ f ⟨false,[(id,some (some (.row e size (xs.map C))))],[(id,some (some (.row e size ((xs++ys).map C))))],.row id (xs++ys).length⟩:=by
 subst hn
 have hb:=Nat.le_of_ble_eq_true hby
 have h:=y6s (dst:=dst) (ty:=ty) (pos:=pos) (af:=af) (gd:=gd) (id:=id) (es:=xs.map C) (news:=ys.map C) hE (by rw [List.length_map]; exact hx) hy (by simpa using hlen.1) (z9t hC) (by simp only [List.length_map]; exact hlen.2)
  (by simp only [List.length_map]; exact Nat.le_trans (Nat.mul_le_mul hlen.2 hb) (by decide))
 rw [← List.map_append,List.length_map] at h
 exact h
theorem y2c (id:Nat) (z:α) {t e:TypeId} {size bytes:Nat} {x y:Operand} {n:Nat} {zs:List Value} (hE:Elem P t e size bytes) (hz:tyZ P e=some zs) (h1:zs.all (·.oneCell')=true) (hx:evS f x = .dat (vint (n:Int))) (hy:evS f y = .dat (vint (n:Int))) (hCz:zs.map vval=C z) (hm:n≤1000000000) (hby:Nat.ble bytes 140737=true) :
  Stp P ⟨dst,.makeSlice t x y,ty,pos,af,gd⟩ f ⟨false,[(id,none)],[(id,some (some (.row e size ((List.replicate n z).map C))))],.row id n⟩:=by
 have hb:=Nat.le_of_ble_eq_true hby
 have h:=x4k (dst:=dst) (ty:=ty) (pos:=pos) (af:=af) (gd:=gd) id hE hz h1 hx hy (Nat.le_refl _) hm (Nat.le_trans (Nat.mul_le_mul hm hb) (by decide))
 rw [hCz] at h
 rw [List.map_replicate]
 exact h
theorem x3p {X:Ctx} {Q:Exit→(Nat→Slot)→Own→Prop} {own:Own} {c:Code} (t id:Nat) {e:TypeId} {size n:Nat} (hf:f t = .row id n) (ho:own id=some (some (.row e size (xs.map C)))) (hn:n=xs.length) (h:AWP P X c Q (updS f (some t) (.dat (vlst (xs.map C)))) (upl own [(id,some none)])):AWP P X c Q f own:=
 z4w t id hf ho (by rw [List.length_map]; exact hn) h
theorem z5n {own:Own} {id n:Nat} {e:TypeId} {size:Nat} (ho:own id=some (some (.row e size (xs.map C)))) (hn:n=xs.length):y46 own (.row id n) (vlst (xs.map C)):=⟨e,size,_,ho,by rw [List.length_map]; exact hn,rfl⟩
theorem y6e {t:TypeId} {x ix:Operand} {l:Bs} {k:Nat} {c:UInt8} (ht:P.underlying t=some .string) (hx:evS f x = .dat (vstr l)) (hi:evS f ix = .dat (vint (k:Int))) (hk:l[k]?=some c) :
  Stp P ⟨dst,.index t x ix,ty,pos,af,gd⟩ f ⟨false,[],[],.dat (vval (.int .u8 (c.toNat:Int)))⟩:=
 yb (x4u ht hx hi (wq hk)) (by unfold byt; rw [List.getD_eq_getElem?_getD,hk]; rfl)
theorem x3k {t:TypeId} {x:Operand} {lo hi:Option Operand} {l r:Bs} {a b:Int} (ht:P.underlying t=some .string) (hx:evS f x = .dat (vstr l))
  (hlo:match lo with | none=>a=0 | some y=>evS f y = .dat (vint a)) (hhi:match hi with | none=>b=(l.length:Int) | some y=>evS f y = .dat (vint b)) (hs:sub? l a b=some r) :
  Stp P ⟨dst,.slice t x lo hi none,ty,pos,af,gd⟩ f ⟨false,[],[],.dat (vstr r)⟩:=by
 obtain ⟨⟨h1,h2,h3⟩,h4⟩:=gif hs
 injection h4 with h4
 subst h4
 have e1:((a.toNat:Nat):Int)=a:=by omega
 have e2:((b.toNat:Nat):Int)=b:=by omega
 refine x3z (a:=a.toNat) (b:=b.toNat) ht hx ?_ ?_ (by omega) (by omega)
 ·cases lo with
  | none=>simp only at hlo ⊢; omega
  | some y=>simp only at hlo ⊢; rw [e1]; exact hlo
 ·cases hi with
  | none=>simp only at hhi ⊢; omega
  | some y=>simp only at hhi ⊢; rw [e2]; exact hhi
theorem x3l {t e:TypeId} {n:Nat} {x:Operand} {lo hi:Option Operand} {r:List α} {a b:Int} (ht:tyE P t=some (e,n)) (hC:∀ y,(C y).length=n) (hx:evS f x = .dat (vlst (xs.map C)))
  (hlo:match lo with | none=>a=0 | some y=>evS f y = .dat (vint a)) (hhi:match hi with | none=>b=(xs.length:Int) | some y=>evS f y = .dat (vint b)) (hs:sub? xs a b=some r) :
  Stp P ⟨dst,.slice t x lo hi none,ty,pos,af,gd⟩ f ⟨false,[],[],.dat (vlst (r.map C))⟩:=by
 obtain ⟨⟨h1,h2,h3⟩,h4⟩:=gif hs
 injection h4 with h4
 subst h4
 have e1:((a.toNat:Nat):Int)=a:=by omega
 have e2:((b.toNat:Nat):Int)=b:=by omega
 have h:=x30 (dst:=dst) (ty:=ty) (pos:=pos) (af:=af) (gd:=gd) (lo:=lo) (hi:=hi) (a:=a.toNat) (b:=b.toNat) ht hx (z9t hC) (by
  cases lo with
  | none=>simp only at hlo ⊢; omega
  | some y=>simp only at hlo ⊢; rw [e1]; exact hlo) (by
  cases hi with
  | none=>simp only [List.length_map] at hhi ⊢; omega
  | some y=>simp only at hhi ⊢; rw [e2]; exact hhi) (by omega) (by rw [List.length_map]; omega)
 rw [← List.map_drop,← List.map_take] at h
 exact h
end
end Go.Proofs.YtgdijjmdfcgifaaGreat
namespace Go.Proofs.YtgdijjmdfcgifaaGreat
open Go.RowKit
set_option linter.unusedVariables false

structure Mem (X:Ctx) (own:Own) (g:Gh) (w:World):Prop where
 kp:Kp X.S0 X.w0 w
 m0:x1l X.M0 X.w0 X.S0
 ob:∀ id o,own id=some (some o)→RepO g w (Mof X g own) id o
 sep:∀ id id' o o' b,own id=some (some o)→own id'=some (some o')→obk g id o=some b→obk g id' o'=some b→id=id'
 mine:∀ id o b,own id=some (some o)→obk g id o=some b→b∈X.S0∨X.w0.heap.size≤b
 fresh:∀ id,own id=none→g.bl id=none∧∀ n,g.sv id n=none
 top:∀ id e size es,own id=some (some (.row e size es))→∀ k,es.length < k→g.sv id k=none

structure An where
 bl:Nat→Nat
 vl:Nat→Value
def anO (A:An) (i:Nat):AObj→AObj
 | .box (some _) t cs => .box (some (A.bl i)) t cs
 | .opq (some _) R => .opq (some (A.bl i)) R
 | .rowA _ e size es => .rowA (A.vl i) e size es
 | o=>o
def anL (A:An):List (Nat×AObj)→List (Nat×AObj)
 | []=>[]
 | (i,o)::l=>(i,anO A i o)::anL A l
theorem x1f (A:An) (l:List (Nat×AObj)):anL A l=l.map fun p=>(p.1,anO A p.1 p.2):=by
 induction l with
 | nil=>rfl
 | cons p l ih=>obtain ⟨i,o⟩:=p; simp only [anL,ih,List.map_cons]

def FnG (P:Program) (fn:Nat) (args:List Slot) (pre:List (Nat×AObj)) (res:Slot) (post:List (Nat×AObj)):Prop:=
 ki P fn=true∧∀ (X:Ctx) (A:An) (g:Gh) (w:World) (vs:Array Value),X.w0=w→Mem X (ows (anL A pre)) g w→vs.size=args.length →
  (∀ (j:Nat) (s:Slot),args[j]?=some s→∃ v,vs[j]?=some v∧RepS g w (Mof X g (ows (anL A pre))) s v) →
  Calls P fn vs w fun e w'=>∃ v g',e = .returned v∧Mem X (ows (anL A post)) g' w'∧RepS g' w' (Mof X g' (ows (anL A post))) res v
def FnC (C:An→Prop) (P:Program) (fn:Nat) (args:List Slot) (pre:List (Nat×AObj)) (res:Slot) (post:List (Nat×AObj)):Prop:=
 ki P fn=true∧∀ (X:Ctx) (A:An) (g:Gh) (w:World) (vs:Array Value),C A→X.w0=w→Mem X (ows (anL A pre)) g w→vs.size=args.length →
  (∀ (j:Nat) (s:Slot),args[j]?=some s→∃ v,vs[j]?=some v∧RepS g w (Mof X g (ows (anL A pre))) s v) →
  Calls P fn vs w fun e w'=>∃ v g',e = .returned v∧Mem X (ows (anL A post)) g' w'∧RepS g' w' (Mof X g' (ows (anL A post))) res v
theorem w0s {P:Program} {fn:Nat} {args:List Slot} {pre:List (Nat×AObj)} {res:Slot} {post:List (Nat×AObj)} (h:FnG P fn args pre res post) (C:An→Prop):FnC C P fn args pre res post:=⟨h.1,fun X A g w vs _=>h.2 X A g w vs⟩

def ResD (P:Program) (f:Nat→Slot) (own:Own):List ResultVar→List V→Prop
 | [],[]=>True
 | .tmp t::rs,u::us=>f t = .dat u∧ResD P f own rs us
 | .cell t ty::rs,u::us=>(∃ id an cs ws,f t = .ptr id 0∧own id=some (some (.box an ty cs))∧cs=List.map Slot.dat ws∧u=vagg ws∧tyS P ty=some (true,ws.length))∧ResD P f own rs us
 | _,_=>False
def ResC (f:Nat→Slot):List ResultVar→List Cmp→Prop
 | [],[]=>True
 | .tmp t::rs,c::cs=>f t=c.s∧ResC f rs cs
 | _,_=>False
def ResG (P:Program) (f:Nat→Slot) (own:Own) (rs:List ResultVar) (res:Slot):Prop:=
 (∃ us,ResD P f own rs us∧res = .dat (zu us))∨(∃ t,rs=[.tmp t]∧f t=res)∨∃ c1 c2 cs,ResC f rs (c1::c2::cs)∧res = .comp true (c1::c2::cs)

theorem x5q {P:Program} {X:Ctx} {f:Nat→Slot} {own:Own} {g:Gh} {a:Act} {w:World} (h:Rel X f own g a w) :
  ∀ (rs:List ResultVar) (us:List V),ResD P f own rs us→∃ l:List Value,
   (rs.mapM (resF a.tmps)).run P w = .ok l w∧Ts w (Mof X g own) us l:=by
 intro rs
 induction rs with
 | nil =>
  intro us hu
  cases us with
  | nil=>exact ⟨[],by simp,rfl,fun j u hj=>by simp at hj⟩
  | cons u us=>cases hu
 | cons r rs ih =>
  intro us hu
  cases us with
  | nil=>cases r <;> cases hu
  | cons u us =>
   have hTs:∀ (v:Value) (l:List Value),u.p w (Mof X g own) v→Ts w (Mof X g own) us l→Ts w (Mof X g own) (u::us) (v::l):=fun v l hv hl =>
    ⟨by simp [hl.1],fun j u' hj=>by
     cases j with
     | zero=>simp at hj; subst hj; exact ⟨v,rfl,hv⟩
     | succ j=>exact hl.2 j u' (by simpa using hj)⟩
   cases r with
   | tmp t =>
    obtain ⟨h1,h2⟩:=hu
    obtain ⟨l,q1,q2⟩:=ih us h2
    have hfr:=h.fr t
    rw [h1] at hfr
    refine ⟨a.tmps.getD t undef::l,?_,hTs _ _ hfr q2⟩
    simp only [List.mapM_cons,resF,Sem.run_bind,Sem.run_pure,Result.andThen_ok,q1]
   | cell t ty =>
    obtain ⟨⟨id,an,cs,ws,h1,h2,h3,h4,h6⟩,h5⟩:=hu
    obtain ⟨l,q1,q2⟩:=ih us h5
    obtain ⟨d,i,r1,r2,r3,r4⟩:=kr h6
    have hfr:=h.fr t
    rw [h1] at hfr
    obtain ⟨b,s1,s2⟩:=hfr
    obtain ⟨b',lv,o1,_,o2,o3,o4⟩:=h.ob id _ h2
    rw [s1] at o1
    cases o1
    have hrun:=run_loadVar_mid (P:=P) w b 0 ty lv d (fun j v hv=>by rw [cell_of_row w b _ _ _ _ o2]; simpa using hv) r1 r2 (by rw [r3]; simp [o3,r4,h3])
    refine ⟨.agg lv.toArray::l,?_,hTs _ _ ?_ q2⟩
    ·simp only [List.mapM_cons,resF,s2,asAddr,Sem.run_bind,Sem.run_pure,Result.andThen_ok,hrun,q1]
    ·subst h4
     refine ⟨lv,rfl,by rw [o3,h3]; simp,fun j u' hj => ?_⟩
     obtain ⟨x,p1,p2,p3⟩:=o4 j (.dat u') (by rw [h3]; simp [hj])
     exact ⟨x,p1,p2,p3⟩
theorem Cmp.rep {g:Gh} {w:World} {M:Blks} {c:Cmp} {v:Value} (h:RepS g w M c.s v):RepC g w M c v:=by cases c <;> exact h
theorem x5r {P:Program} {X:Ctx} {f:Nat→Slot} {own:Own} {g:Gh} {a:Act} {w:World} (h:Rel X f own g a w) :
  ∀ (rs:List ResultVar) (cs:List Cmp),ResC f rs cs→∃ l:List Value,
   (rs.mapM (resF a.tmps)).run P w = .ok l w∧l.length=cs.length∧∀ (j:Nat) (c:Cmp),cs[j]?=some c→∃ x,l[j]?=some x∧RepC g w (Mof X g own) c x:=by
 intro rs
 induction rs with
 | nil =>
  intro us hu
  cases us with
  | nil=>exact ⟨[],by simp,rfl,fun j u hj=>by simp at hj⟩
  | cons u us=>cases hu
 | cons r rs ih =>
  intro us hu
  cases us with
  | nil=>cases r <;> cases hu
  | cons u us =>
   cases r with
   | tmp t =>
    obtain ⟨h1,h2⟩:=hu
    obtain ⟨l,q1,q2,q3⟩:=ih us h2
    have hfr:=h.fr t
    rw [h1] at hfr
    refine ⟨a.tmps.getD t undef::l,?_,by simp [q2],fun j c hj => ?_⟩
    ·simp only [List.mapM_cons,resF,Sem.run_bind,Sem.run_pure,Result.andThen_ok,q1]
    ·cases j with
     | zero=>simp at hj; subst hj; exact ⟨_,rfl,Cmp.rep hfr⟩
     | succ j=>exact q3 j c (by simpa using hj)
   | cell t ty=>cases hu
theorem y7c {P:Program} {X:Ctx} {f:Nat→Slot} {own:Own} {g:Gh} {a:Act} {w:World} (h:Rel X f own g a w) (fc:Func) (res:Slot) (hres:ResG P f own fc.results.toList res):∃ v,(results fc a.tmps).run P w = .ok v w∧RepS g w (Mof X g own) res v:=by
 rcases hres with ⟨us,hus,rfl⟩ | ⟨t,h1,rfl⟩ | ⟨c1,c2,cs,h1,rfl⟩
 ·obtain ⟨l,q1,q2⟩:=x5q (P:=P) h fc.results.toList us hus
  have hm:(fc.results.mapM (resF a.tmps)).run P w = .ok l.toArray w:=by
   rw [Array.mapM_eq_mapM_toList]
   simp [q1]
  rw [z9g]
  have hl:l.length=us.length:=q2.1
  cases hus:us with
  | nil =>
   subst hus
   have:l=[]:=List.eq_nil_of_length_eq_zero hl
   subst this
   exact ⟨.tuple #[],by simp [hm],[],rfl,q2⟩
  | cons u us' =>
   cases us' with
   | nil =>
    subst hus
    obtain ⟨x,hx⟩:∃ x,l=[x]:=List.length_eq_one_iff.1 hl
    subst hx
    refine ⟨x,by simp [hm],?_⟩
    obtain ⟨y,h1,h2⟩:=q2.2 0 u rfl
    simp at h1
    subst h1
    exact h2
   | cons u2 us2 =>
    subst hus
    refine ⟨.tuple l.toArray,?_,l,rfl,q2⟩
    have:¬ l.length=1:=by simp at hl; omega
    simp [hm,this]
 ·have hm:(fc.results.mapM (resF a.tmps)).run P w = .ok #[a.tmps.getD t undef] w:=by
   rw [Array.mapM_eq_mapM_toList,h1]
   simp [resF]
  rw [z9g]
  exact ⟨a.tmps.getD t undef,by simp [hm],h.fr t⟩
 ·obtain ⟨l,q1,q2,q3⟩:=x5r (P:=P) h fc.results.toList _ h1
  have hm:(fc.results.mapM (resF a.tmps)).run P w = .ok l.toArray w:=by
   rw [Array.mapM_eq_mapM_toList]
   simp [q1]
  rw [z9g]
  have hl:¬ l.length=1:=by simp at q2; omega
  refine ⟨.tuple l.toArray,by simp [hm,hl],l,rfl,q2,fun j c hj => ?_⟩
  obtain ⟨x,r1,r2⟩:=q3 j c hj
  exact ⟨x,r1,r2,fun h=>by cases h⟩

theorem w0r {C:An→Prop} {P:Program} {fn:Nat} {fc:Func} {c:Code} {args:List Slot} {pre post:List (Nat×AObj)} {res:Slot} {N:Nat} {rs:List ResultVar} (hok:ki P fn=true) (hf:P.funcs[fn]?=some fc) (hb:fc.body=some c) (hnt:fc.ntmps=N) (hrs:fc.results.toList=rs) (hn:Nat.ble args.length N=true)
  (h:∀ (X:Ctx) (A:An),X.N=N→C A→AWP P X c (fun e f own=>(match e with | .ret=>True | .normal=>True | _=>False)∧∃ lf,subF f lf∧subO own (anL A post)∧okL lf (anL A post)=true∧ResG P (frs lf) (ows (anL A post)) rs res) (fun t=>args.getD t .any) (ows (anL A pre))) :
  FnC C P fn args pre res post:=by
 subst hnt hrs
 have hn:=Nat.le_of_ble_eq_true hn
 refine ⟨hok,fun X0 A g w vs hC hw hm hvl hvs => ?_⟩
 obtain ⟨M0,w0,S0,N0,R0,D0⟩:=X0
 simp only at hw
 subst hw
 refine calls_of_wp hf hb (wp_mono (wpIn_wide.1 (h ⟨M0,w0,S0,fc.ntmps,none,[]⟩ A rfl hC g _ w0 ?_)) ?_)
 ·refine ⟨hm.kp,hm.m0,by simp; omega,rfl,fun t => ?_,hm.ob,hm.sep,hm.mine,hm.fresh,hm.top⟩
  cases hs:args[t]? with
  | none =>
   have:args.getD t .any = .any:=by rw [List.getD_eq_getElem?_getD,hs]; rfl
   rw [this]; trivial
  | some u =>
   have e1:args.getD t .any=u:=by rw [List.getD_eq_getElem?_getD,hs]; rfl
   rw [e1]
   obtain ⟨x,hx',hp⟩:=hvs t u hs
   have hlt:t < vs.size:=(Array.getElem?_eq_some_iff.1 hx').1
   have e2:(vs++Array.replicate (fc.ntmps - vs.size) undef).getD t undef=x:=by
    rw [Array.getD_eq_getD_getElem?,Array.getElem?_append_left hlt,hx']; rfl
   show RepS g w0 _ u ((vs++Array.replicate (fc.ntmps - vs.size) undef).getD t undef)
   rw [e2]
   exact hp
 ·rintro e a' w' ⟨f',own',g',hr,he,lf,hs1,hs2,hok2,hres⟩
  obtain ⟨g'',hr2⟩:=hr.less lf (anL A post) hs1 hs2 hok2
  obtain ⟨v,hv1,hv2⟩:=y7c (P:=P) hr2 fc res hres
  have hfin:a'.defers=[]∧∃ v,(results fc a'.tmps).run P w' = .ok v w'∧∃ v_1 g',Ending.returned v = .returned v_1∧Mem ⟨M0,w0,S0,N0,R0,D0⟩ (ows (anL A post)) g' w'∧RepS g' w' (Mof ⟨M0,w0,S0,N0,R0,D0⟩ g' (ows (anL A post))) res v_1:=
   ⟨hr2.df,v,hv1,v,g'',rfl,⟨hr2.kp,hr2.m0,hr2.ob,hr2.sep,hr2.mine,hr2.fresh,hr2.top⟩,hv2⟩
  cases e with
  | normal=>exact hfin
  | ret=>exact hfin
  | exit _=>exact he.elim
  | goto _=>exact he.elim
  | panic _=>exact he.elim
  | outgrown=>exact he.elim
theorem Zu {P:Program} {fn:Nat} {fc:Func} {c:Code} {args:List Slot} {pre post:List (Nat×AObj)} {res:Slot} {N:Nat} {rs:List ResultVar} (hok:ki P fn=true) (hf:P.funcs[fn]?=some fc) (hb:fc.body=some c) (hnt:fc.ntmps=N) (hrs:fc.results.toList=rs) (hn:Nat.ble args.length N=true)
  (h:∀ (X:Ctx) (A:An),X.N=N→AWP P X c (fun e f own=>(match e with | .ret=>True | .normal=>True | _=>False)∧∃ lf,subF f lf∧subO own (anL A post)∧okL lf (anL A post)=true∧ResG P (frs lf) (ows (anL A post)) rs res) (fun t=>args.getD t .any) (ows (anL A pre))) :
  FnG P fn args pre res post:=by
 obtain ⟨h1,h2⟩:=w0r (C:=fun _=>True) hok hf hb hnt hrs hn fun X A hX _=>h X A hX
 exact ⟨h1,fun X A g w vs=>h2 X A g w vs trivial⟩
end Go.Proofs.YtgdijjmdfcgifaaGreat
namespace Go.Proofs.YtgdijjmdfcgifaaGreat
open Go.RowKit
set_option linter.unusedVariables false

def rnC (σ:Nat→Nat):Cmp→Cmp
 | .dat v => .dat v
 | .ptr id off => .ptr (σ id) off
 | .row id n => .row (σ id) n
 | .mp id => .mp (σ id)
def rnS (σ:Nat→Nat):Slot→Slot
 | .any => .any
 | .dat v => .dat v
 | .ptr id off => .ptr (σ id) off
 | .row id n => .row (σ id) n
 | .rptr id n size k c => .rptr (σ id) n size k c
 | .mp id => .mp (σ id)
 | .rsub id n size k => .rsub (σ id) n size k
 | .nptr id => .nptr (σ id)
 | .dr id u => .dr (σ id) u
 | .comp tup cs => .comp tup (cs.map (rnC σ))
def rnO (σ:Nat→Nat):AObj→AObj
 | .box an t cs => .box an t (cs.map (rnS σ))
 | o=>o
def rn:List (Nat×Nat)→Nat→Nat
 | [],i=>i
 | (a,b)::l,i=>cond (Nat.beq i a) b (rn l i)
def matO (σ:Nat→Nat):AObj→AObj→Prop
 | .box (some _) t cs,.box _ t' cs'=>t=t'∧cs'=cs.map (rnS σ)
 | .opq (some _) R,.opq _ R'=>R=R'
 | .row e size es,.row e' size' es'=>e=e'∧size=size'∧es=es'
 | .rowA _ e size es,.row e' size' es'=>e=e'∧size=size'∧es=es'
 | .rowA _ e size es,.rowA _ e' size' es'=>e=e'∧size=size'∧es=es'
 | _,_=>False
def outO (σ:Nat→Nat):AObj→AObj→AObj
 | .box an _ _,.box _ t cs => .box an t (cs.map (rnS σ))
 | .opq an _,.opq _ R => .opq an R
 | .row _ _ _,.rowA _ e size es => .row e size es
 | .rowA v _ _ _,.rowA _ e size es => .rowA v e size es
 | _,o=>rnO σ o
def qm:AObj→Option AObj→Bool
 | _,none=>true
 | .box (some _) _ _,some (.box (some _) _ _)=>true
 | .opq (some _) _,some (.opq (some _) _)=>true
 | .rowA _ _ _ es,some (.rowA _ _ _ es')=>true
 | _,_=>false
def z0f (own:Own):List Slot→Prop
 | []=>True
 | .row id n::l=>match own id with
  | some (some (.rowA _ _ _ es))=>n=es.length∧z0f own l
  | _=>z0f own l
 | _::l=>z0f own l
theorem y7j {own:Own}:∀ {cs:List Slot},z0f own cs→∀ {id n:Nat} {v:Value} {e:TypeId} {size:Nat} {es:List (List V)},Slot.row id n∈cs→own id=some (some (.rowA v e size es))→n=es.length
 | [],_,_,_,_,_,_,_,h,_=>by cases h
 | s::l,hr,id,n,v,e,size,es,h,ho=>by
  rcases List.mem_cons.1 h with h | h
  ·subst h
   simp only [z0f,ho] at hr
   exact hr.1
  ·have:z0f own l:=by
    cases s with
    | row i m =>
     simp only [z0f] at hr
     split at hr
     ·exact hr.2
     ·exact hr
    | _=>exact hr
   exact y7j this h ho
def z0d (own:Own):AObj→Option AObj→Prop
 | .rowA _ _ _ es,some (.rowA _ _ _ es')=>es'.length=es.length
 | .box _ _ _,some (.box _ _ cs)=>z0f own cs
 | _,_=>True
def newB:AObj→Bool
 | .box none _ _=>true
 | .opq none _=>true
 | .row _ _ _=>true
 | _=>false
abbrev Ent:=Nat×AObj×AObj×Option AObj
def vi (L:List Ent):List (Nat×AObj):=L.map fun e=>(e.1,e.2.1)
def we (L:List Ent) (nw:List (Nat×AObj)):List (Nat×AObj):=L.filterMap (fun e=>e.2.2.2.map fun o=>(e.1,o))++nw
def rdOf (σ:Nat→Nat) (L:List Ent) (nw:List (Nat×AObj)):List (Nat×Option (Option AObj)):=L.map (fun e=>(σ e.1,some (some e.2.2.1)))++nw.map fun p=>(σ p.1,none)
def wrOf (σ:Nat→Nat) (L:List Ent) (nw:List (Nat×AObj)):List (Nat×Option (Option AObj)):=L.map (fun e=>(σ e.1,some (e.2.2.2.map (outO σ e.2.2.1))))++nw.map fun p=>(σ p.1,some (some (rnO σ p.2)))
def vk (L:List Ent) (nw:List (Nat×AObj)):List Nat:=L.map (·.1)++nw.map (·.1)
def ndB:List Nat→Bool
 | []=>true
 | a::l => !(l.any fun b=>Nat.beq a b) && ndB l
theorem Zq:∀ {l:List Nat},ndB l=true→l.Nodup
 | [],_=>List.nodup_nil
 | a::l,h=>by
  simp only [ndB,Bool.and_eq_true,Bool.not_eq_true',List.any_eq_false] at h
  refine List.nodup_cons.2 ⟨fun hm => ?_,Zq h.2⟩
  exact h.1 a hm (by simp)
def z9i (L:List Ent):List (Nat×AObj):=L.filterMap (fun e=>e.2.2.2.map fun o=>(e.1,o))
def matM (own:Own) (σ:Nat→Nat):List Ent→Prop
 | []=>True
 | (_,o,c,p)::l=>(matO σ o c∧z0d own o p)∧matM own σ l
theorem y8q {own:Own} {σ:Nat→Nat}:∀ {L:List Ent},matM own σ L→∀ e,e∈L→matO σ e.2.1 e.2.2.1∧z0d own e.2.1 e.2.2.2
 | [],_,e,h=>by cases h
 | _::l,h,e,he=>by
  rcases List.mem_cons.1 he with rfl | he
  ·exact h.1
  ·exact y8q h.2 e he
def matL (σ:Nat→Nat) (L:List Ent):Prop:=matM (ows (z9i L)) σ L
theorem Qy {σ:Nat→Nat} {L:List Ent} (h:matL σ L):∀ e,e∈L→matO σ e.2.1 e.2.2.1∧z0d (ows (z9i L)) e.2.1 e.2.2.2:=y8q h
def argG (s t:Slot):Prop:=s=t∨(s = .dat vnil∧t = .dat (vlst []))
def z4y (f:Nat→Slot) (σ:Nat→Nat):List Operand→List Slot→Prop
 | [],[]=>True
 | x::xs,s::ss=>(argG (evS f x) (rnS σ s)∨∃ n,x = .func n∧s = .dat (vfn n []))∧z4y f σ xs ss
 | _,_=>False
theorem x1d {f:Nat→Slot} {σ:Nat→Nat} {g:Gh} {w:World} {M:Blks} {ev:Operand→Value} (hev:∀ n,ev (.func n) = .func (.func n) #[] #[]):∀ (xs:List Operand) (ss:List Slot),z4y f σ xs ss→(∀ x,x∈xs→RepS g w M (evS f x) (ev x)) →
  xs.length=ss.length∧∀ (j:Nat) (s:Slot),ss[j]?=some s→∃ v,(xs.map ev)[j]?=some v∧RepS g w M (rnS σ s) v
 | [],[],_,_=>⟨rfl,fun j s h=>by simp at h⟩
 | x::xs,s::ss,h,hx=>by
  obtain ⟨h1,h2⟩:=x1d hev xs ss h.2 fun y hy=>hx y (List.mem_cons_of_mem _ hy)
  refine ⟨by simp [h1],fun j s' hj => ?_⟩
  cases j with
  | zero =>
   simp at hj
   subst hj
   refine ⟨ev x,rfl,?_⟩
   rcases h.1 with (h3 | ⟨h3,h4⟩) | ⟨n,rfl,rfl⟩
   ·rw [← h3]; exact hx x (by simp)
   ·have h5:=hx x (by simp)
    rw [h3] at h5
    rw [h4]
    exact y5d _ _ _ h5
   ·rw [hev n]
    exact ⟨[],rfl,rfl,fun j u hj=>by simp at hj⟩
  | succ j=>exact h2 j s' (by simpa using hj)
 | [],_::_,h,_=>h.elim
 | _::_,[],h,_=>h.elim

theorem qg:∀ {l:List (Nat×AObj)},(l.map (·.1)).Nodup→∀ {id:Nat} {o:AObj},ows l id=some (some o)↔(id,o)∈l
 | [],_,id,o=>by simp [ows,upl]
 | (k,x)::l,nd,id,o=>by
  have ih:=qg (l:=l) (List.nodup_cons.1 nd).2 (id:=id) (o:=o)
  have hk:k ∉ l.map (·.1):=(List.nodup_cons.1 nd).1
  show cond (Nat.beq id k) (some (some x)) (ows l id)=_↔_
  by_cases h:id=k
  ·subst h
   have e1:Nat.beq id id=true:=by simp
   rw [e1]
   simp only [cond_true,Option.some.injEq,List.mem_cons,Prod.mk.injEq,true_and]
   constructor
   ·intro h; exact .inl h.symm
   ·rintro (h | h)
    ·exact h.symm
    ·exact absurd (List.mem_map.2 ⟨(id,o),h,rfl⟩) hk
  ·rw [qu h]
   simp only [cond_false,List.mem_cons,Prod.mk.injEq,h,false_and,false_or]
   exact ih
theorem jp {id:Nat}:∀ {l:List (Nat×AObj)},ows l id=none↔id ∉ l.map (·.1)
 | []=>by simp [ows,upl]
 | (k,x)::l=>by
  have ih:=jp (id:=id) (l:=l)
  show cond (Nat.beq id k) (some (some x)) (ows l id)=none↔_
  by_cases h:id=k
  ·subst h
   have e1:Nat.beq id id=true:=by simp
   rw [e1]; simp
  ·rw [qu h]
   simp only [cond_false,List.map_cons,List.mem_cons,h,false_or]
   exact ih
theorem z45 {β:Type} (f:Nat→β):∀ (l:List (Nat×β)) (x:Nat),(x ∉ keys l∧upl f l x=f x)∨∃ q,(x,q)∈l∧upl f l x=q
 | [],x => .inl ⟨by simp [keys],rfl⟩
 | (k,v)::l,x=>by
  by_cases h:x=k
  ·subst h
   exact .inr ⟨v,by simp,by simp [upl]⟩
  ·rcases z45 f l x with ⟨h1,h2⟩ | ⟨q,h1,h2⟩
   ·refine .inl ⟨?_,?_⟩
    ·simp only [keys,List.map_cons,List.mem_cons,h,false_or]; exact h1
    ·simp only [upl,qu h,cond_false]; exact h2
   ·exact .inr ⟨q,List.mem_cons_of_mem _ h1,by simp only [upl,qu h,cond_false]; exact h2⟩
theorem x6u {α:Type} {l:List (Nat×α)} (nd:(l.map (·.1)).Nodup) {k:Nat} {a b:α} (h1:(k,a)∈l) (h2:(k,b)∈l):a=b:=by
 induction l with
 | nil=>cases h1
 | cons p l ih =>
  have hk:=(List.nodup_cons.1 nd).1
  have hin:∀ x,(k,x)∈l→k∈l.map (·.1):=fun x h=>List.mem_map.2 ⟨_,h,rfl⟩
  rcases List.mem_cons.1 h1 with e1 | h1
  ·rcases List.mem_cons.1 h2 with e2 | h2
   ·rw [← e1] at e2; cases e2; rfl
   ·rw [← e1] at hk; exact absurd (hin _ h2) hk
  ·rcases List.mem_cons.1 h2 with e2 | h2
   ·rw [← e2] at hk; exact absurd (hin _ h1) hk
   ·exact ih (List.nodup_cons.1 nd).2 h1 h2

theorem RepS.rnIn {g g':Gh} {w:World} {M M':Blks} {σ:Nat→Nat} {own:Own} {s:Slot} {v:Value} (hM:Ext M M' w w) (hb:∀ i,qp own i=true→g'.bl i=g.bl (σ i)∧∀ n,g'.sv i n=g.sv (σ i) n) (ok:okS own s=true) (h:RepS g w M (rnS σ s) v):RepS g' w M' s v:=by
 cases s with
 | any=>trivial
 | dat u=>exact u.keep hM h
 | ptr id off=>obtain ⟨b,h1,h2⟩:=h; exact ⟨b,by rw [(hb id ok).1]; exact h1,h2⟩
 | row id n=>show g'.sv id n=_; rw [(hb id ok).2]; exact h
 | rptr id n size k c=>obtain ⟨b,cap,h1,h2⟩:=h; exact ⟨b,cap,by rw [(hb id ok).2]; exact h1,h2⟩
 | mp id=>obtain ⟨b,h1,h2⟩:=h; exact ⟨b,by rw [(hb id ok).1]; exact h1,h2⟩
 | rsub id n size k=>obtain ⟨b,cap,h1,h2⟩:=h; exact ⟨b,cap,by rw [(hb id ok).2]; exact h1,h2⟩
 | nptr id =>
  rcases h with h | ⟨b,h1,h2⟩
  ·exact .inl h
  ·exact .inr ⟨b,by rw [(hb id ok).1]; exact h1,h2⟩
 | dr id u=>obtain ⟨b,h1,h2⟩:=h; exact ⟨b,by rw [(hb id ok).1]; exact h1,(u b).keep hM h2⟩
 | comp tup cs =>
  refine kq.unmap (rnC σ) h fun c x hc hx => ?_
  have ok':okC own c=true:=(List.all_eq_true.1 ok) c hc
  cases c with
  | dat u=>exact u.keep hM hx
  | ptr id off=>obtain ⟨b,h1,h2⟩:=hx; exact ⟨b,by rw [(hb id ok').1]; exact h1,h2⟩
  | row id n=>show g'.sv id n=_; rw [(hb id ok').2]; exact hx
  | mp id=>obtain ⟨b,h1,h2⟩:=hx; exact ⟨b,by rw [(hb id ok').1]; exact h1,h2⟩
def isB:Option (Option AObj)→Bool
 | some (some (.box _ _ _))=>true
 | some (some (.opq _ _))=>true
 | _=>false
def isR:Option (Option AObj)→Bool
 | some (some (.row _ _ _))=>true
 | _=>false
def okTC (own:Own):Cmp→Bool
 | .dat _=>true
 | .ptr id _=>isB (own id)
 | .row id _=>isR (own id)
 | .mp id=>isB (own id)
def okT (own:Own):Slot→Bool
 | .any=>true
 | .dat _=>true
 | .ptr id _=>isB (own id)
 | .row id _=>isR (own id)
 | .rptr id _ _ _ _=>isR (own id)
 | .mp id=>isB (own id)
 | .rsub id _ _ _=>isR (own id)
 | .nptr id=>isB (own id)
 | .dr id _=>isB (own id)
 | .comp _ cs=>cs.all (okTC own)
def isA:Option (Option AObj)→Bool
 | some (some (.rowA _ _ _ _))=>true
 | _=>false
def okT2 (own:Own):Slot→Bool
 | .row id _=>isR (own id) || isA (own id)
 | s=>okT own s
def okQ (own:Own):AObj→Bool
 | .box _ _ cs=>cs.all (okT own)
 | _=>true
def okP (own:Own):AObj→Bool
 | .box _ _ cs=>cs.all (okT2 own)
 | .row _ _ _=>true
 | .opq _ _=>true
 | .rowA _ _ _ _=>true
theorem RepS.rnOut {g g':Gh} {w:World} {M M':Blks} {σ:Nat→Nat} {own:Own} {s:Slot} {v:Value} (hM:Ext M M' w w) (hb1:∀ i,isB (own i)=true→∀ b,g.bl i=some b→g'.bl (σ i)=some b) (hb2:∀ i,isR (own i)=true→∀ n v,g.sv i n=some v→g'.sv (σ i) n=some v) (ok:okT own s=true) (h:RepS g w M s v):RepS g' w M' (rnS σ s) v:=by
 cases s with
 | any=>trivial
 | dat u=>exact u.keep hM h
 | ptr id off=>obtain ⟨b,h1,h2⟩:=h; exact ⟨b,hb1 id ok _ h1,h2⟩
 | row id n=>exact hb2 id ok _ _ h
 | rptr id n size k c=>obtain ⟨b,cap,h1,h2⟩:=h; exact ⟨b,cap,hb2 id ok _ _ h1,h2⟩
 | mp id=>obtain ⟨b,h1,h2⟩:=h; exact ⟨b,hb1 id ok _ h1,h2⟩
 | rsub id n size k=>obtain ⟨b,cap,h1,h2⟩:=h; exact ⟨b,cap,hb2 id ok _ _ h1,h2⟩
 | nptr id =>
  rcases h with h | ⟨b,h1,h2⟩
  ·exact .inl h
  ·exact .inr ⟨b,hb1 id ok _ h1,h2⟩
 | dr id u=>obtain ⟨b,h1,h2⟩:=h; exact ⟨b,hb1 id ok _ h1,(u b).keep hM h2⟩
 | comp tup cs =>
  refine kq.map (rnC σ) h fun c x hc hx => ?_
  have ok':okTC own c=true:=(List.all_eq_true.1 ok) c hc
  cases c with
  | dat u=>exact u.keep hM hx
  | ptr id off=>obtain ⟨b,h1,h2⟩:=hx; exact ⟨b,hb1 id ok' _ h1,h2⟩
  | row id n=>exact hb2 id ok' _ _ hx
  | mp id=>obtain ⟨b,h1,h2⟩:=hx; exact ⟨b,hb1 id ok' _ h1,h2⟩

theorem RepS.rnOutA {g g':Gh} {w:World} {M M':Blks} {σ:Nat→Nat} {own:Own} {s:Slot} {v:Value} (hM:Ext M M' w w) (hb1:∀ i,isB (own i)=true→∀ b,g.bl i=some b→g'.bl (σ i)=some b) (hb2:∀ i,isR (own i)=true→∀ n v,g.sv i n=some v→g'.sv (σ i) n=some v)
  (hb3:∀ i v e size es,own i=some (some (.rowA v e size es))→∀ x,g.sv i es.length=some x→g'.sv (σ i) es.length=some x) (hn:∀ id n v e size es,s = .row id n→own id=some (some (.rowA v e size es))→n=es.length) (ok:okT2 own s=true) (h:RepS g w M s v):RepS g' w M' (rnS σ s) v:=by
 cases s with
 | row id n =>
  cases hi:isR (own id)
  ·have hA:isA (own id)=true:=by simpa [okT2,hi] using ok
   cases ho:own id with
   | none=>rw [ho] at hA; cases hA
   | some oo =>
    cases oo with
    | none=>rw [ho] at hA; cases hA
    | some o =>
     cases o with
     | rowA u e size es =>
      have:=hn id n u e size es rfl ho
      subst this
      exact hb3 id u e size es ho v h
     | box _ _ _=>rw [ho] at hA; cases hA
     | opq _ _=>rw [ho] at hA; cases hA
     | row _ _ _=>rw [ho] at hA; cases hA
  ·exact hb2 id hi n v h
 | any=>exact RepS.rnOut hM hb1 hb2 ok h
 | dat u=>exact RepS.rnOut hM hb1 hb2 ok h
 | ptr id off=>exact RepS.rnOut hM hb1 hb2 ok h
 | rptr id n size k c=>exact RepS.rnOut hM hb1 hb2 ok h
 | mp id=>exact RepS.rnOut hM hb1 hb2 ok h
 | rsub id n size k=>exact RepS.rnOut hM hb1 hb2 ok h
 | nptr id=>exact RepS.rnOut hM hb1 hb2 ok h
 | dr id u=>exact RepS.rnOut hM hb1 hb2 ok h
 | comp tup cs=>exact RepS.rnOut hM hb1 hb2 ok h

theorem RepO.rnIn {g g':Gh} {w:World} {M M':Blks} {σ:Nat→Nat} {own:Own} {i:Nat} {o c:AObj} {A:An} (hM:Ext M M' w w) (hb:∀ i,qp own i=true→g'.bl i=g.bl (σ i)∧∀ n,g'.sv i n=g.sv (σ i) n)
  (hi:qp own i=true) (ok:okO own o=true) (hm:matO σ o c) (hA:∀ b,g.bl (σ i)=some b→A.bl i=b) (hV:∀ v,(∃ e size es,c = .row e size es∧g.sv (σ i) es.length=some v)∨(∃ e size es,c = .rowA v e size es)→A.vl i=v) (h:RepO g w M (σ i) c) :
  RepO g' w M' i (anO A i o)∧obk g' i (anO A i o)=obk g (σ i) c:=by
 obtain ⟨b1,b2⟩:=hb i hi
 cases o with
 | box an t cs =>
  cases an with
  | none=>cases c <;> exact hm.elim
  | some q =>
   cases c with
   | box an' t' cs' =>
    obtain ⟨rfl,rfl⟩:=hm
    obtain ⟨b,l,h1,h0,h2,h3,h4⟩:=h
    refine ⟨⟨b,l,by rw [b1]; exact h1,fun q hq=>by cases hq; exact hA b h1,h2,by simpa using h3,fun j s hs => ?_⟩,b1⟩
    obtain ⟨x,g1,g2,g3⟩:=h4 j (rnS σ s) (by rw [List.getElem?_map,hs]; rfl)
    exact ⟨x,g1,g2.rnIn hM hb ((List.all_eq_true.1 ok) s (List.mem_of_getElem? hs)),g3⟩
   | row _ _ _=>exact hm.elim
   | opq _ _=>exact hm.elim
   | rowA _ _ _ _=>exact hm.elim
 | row e size es =>
  cases c with
  | row e' size' es' =>
   obtain ⟨rfl,rfl,rfl⟩:=hm
   obtain ⟨v,xs,h1,h2,h3,h4,h5⟩:=h
   refine ⟨⟨v,xs,by rw [b2]; exact h1,h2,h3,h4,fun k c el u hk hc => ?_⟩,by simp only [anO,obk,b2]⟩
   obtain ⟨x,g1,g2,g3⟩:=h5 k c el u hk hc
   exact ⟨x,g1,u.keep hM g2,g3⟩
  | box _ _ _=>exact hm.elim
  | opq _ _=>exact hm.elim
  | rowA _ _ _ _=>exact hm.elim
 | opq an R =>
  cases an with
  | none=>cases c <;> exact hm.elim
  | some q =>
   cases c with
   | opq an' R' =>
    obtain rfl:R=R':=hm
    obtain ⟨b,o,h1,h0,h2,h3⟩:=h
    exact ⟨⟨b,o,by rw [b1]; exact h1,fun q hq=>by cases hq; exact hA b h1,h2,h3⟩,b1⟩
   | row _ _ _=>exact hm.elim
   | box _ _ _=>exact hm.elim
   | rowA _ _ _ _=>exact hm.elim
 | rowA v0 e size es =>
  cases c with
  | row e' size' es' =>
   obtain ⟨rfl,rfl,rfl⟩:=hm
   obtain ⟨v,xs,h1,h2,h3,h4,h5⟩:=h
   have hv:=hV v (.inl ⟨_,_,_,rfl,h1⟩)
   refine ⟨⟨xs,by rw [b2,hv]; exact h1,by rw [hv]; exact h2,h3,h4,fun k c el u hk hc => ?_⟩,by simp only [anO,obk,hv,h1,Option.bind_some]⟩
   obtain ⟨x,g1,g2,g3⟩:=h5 k c el u hk hc
   exact ⟨x,g1,u.keep hM g2,g3⟩
  | rowA v e' size' es' =>
   obtain ⟨rfl,rfl,rfl⟩:=hm
   obtain ⟨xs,h1,h2,h3,h4,h5⟩:=h
   have hv:=hV v (.inr ⟨_,_,_,rfl⟩)
   refine ⟨⟨xs,by rw [b2,hv]; exact h1,by rw [hv]; exact h2,h3,h4,fun k c el u hk hc => ?_⟩,by simp only [anO,obk,hv]⟩
   obtain ⟨x,g1,g2,g3⟩:=h5 k c el u hk hc
   exact ⟨x,g1,u.keep hM g2,g3⟩
  | box _ _ _=>exact hm.elim
  | opq _ _=>exact hm.elim

theorem RepO.rnStay {g G:Gh} {w w0:World} {M M' M0:Blks} {σ:Nat→Nat} {own:Own} {i:Nat} {o o' c:AObj} {A:An} (hM:Ext M M' w w) (hb1:∀ i,isB (own i)=true→∀ b,g.bl i=some b→G.bl (σ i)=some b) (hb2:∀ i,isR (own i)=true→∀ n v,g.sv i n=some v→G.sv (σ i) n=some v)
  (hb3:∀ i v e size es,own i=some (some (.rowA v e size es))→∀ x,g.sv i es.length=some x→G.sv (σ i) es.length=some x) {own1:Own} (ho1:∀ i v e size es,own i=some (some (.rowA v e size es))→own1 i=own i)
  (hi:own i=some (some o')) (hsp:z0d own1 o (some o')) (ok:okP own o'=true) (hm:matO σ o c) (hs:qm o (some o')=true) (hA:∀ b,G.bl (σ i)=some b→A.bl i=b) (hV:∀ v,(∃ e size es,c = .row e size es∧G.sv (σ i) es.length=some v)∨(∃ e size es,c = .rowA v e size es)→A.vl i=v) (h0:RepO G w0 M0 (σ i) c) (h:RepO g w M i (anO A i o')) :
  RepO G w M' (σ i) (outO σ c o')∧obk G (σ i) (outO σ c o')=obk g i (anO A i o'):=by
 cases o with
 | box an t cs =>
  cases an with
  | none=>cases o' <;> simp [qm] at hs
  | some q =>
   cases o' with
   | box an' t' cs' =>
    cases an' with
    | none=>simp [qm] at hs
    | some q' =>
     cases c with
     | box an'' t'' cs'' =>
      obtain ⟨b,l,h1,h00,h2,h3,h4⟩:=h
      obtain ⟨b',l',r1,r0,_⟩:=h0
      have hbb:b'=b:=by have:=hb1 i (by rw [hi]; rfl) b h1; rw [this] at r1; cases r1; rfl
      subst hbb
      refine ⟨⟨b',l,hb1 i (by rw [hi]; rfl) b' h1,r0,h2,by simpa using h3,fun j s hsj => ?_⟩,by simp only [outO,anO,obk]; rw [hb1 i (by rw [hi]; rfl) b' h1,h1]⟩
      rw [List.getElem?_map] at hsj
      cases hq:cs'[j]? with
      | none=>rw [hq] at hsj; cases hsj
      | some s' =>
       rw [hq] at hsj
       cases hsj
       obtain ⟨x,g1,g2,g3⟩:=h4 j s' hq
       exact ⟨x,g1,g2.rnOutA hM hb1 hb2 hb3 (fun id n v e size es hs ho=>y7j hsp (hs ▸ List.mem_of_getElem? hq) ((ho1 id v e size es ho).trans ho)) ((List.all_eq_true.1 ok) s' (List.mem_of_getElem? hq)),g3⟩
     | row _ _ _=>exact hm.elim
     | opq _ _=>exact hm.elim
     | rowA _ _ _ _=>exact hm.elim
   | row _ _ _=>simp [qm] at hs
   | opq _ _=>simp [qm] at hs
   | rowA _ _ _ _=>simp [qm] at hs
 | row e size es=>cases o' <;> simp [qm] at hs
 | opq an R =>
  cases an with
  | none=>cases o' <;> simp [qm] at hs
  | some q =>
   cases o' with
   | opq an' R' =>
    cases an' with
    | none=>simp [qm] at hs
    | some q' =>
     cases c with
     | opq an'' R'' =>
      obtain ⟨b,ob,h1,h00,h2,h3⟩:=h
      obtain ⟨b',l',r1,r0,_⟩:=h0
      have hbb:b'=b:=by have:=hb1 i (by rw [hi]; rfl) b h1; rw [this] at r1; cases r1; rfl
      subst hbb
      exact ⟨⟨b',ob,hb1 i (by rw [hi]; rfl) b' h1,r0,h2,h3⟩,by simp only [outO,anO,obk]; rw [hb1 i (by rw [hi]; rfl) b' h1,h1]⟩
     | row _ _ _=>exact hm.elim
     | box _ _ _=>exact hm.elim
     | rowA _ _ _ _=>exact hm.elim
   | row _ _ _=>simp [qm] at hs
   | box _ _ _=>simp [qm] at hs
   | rowA _ _ _ _=>simp [qm] at hs
 | rowA v0 e size es =>
  cases o' with
  | rowA v1 e1 size1 es1 =>
   obtain ⟨xs,h1,h2,h3,h4,h5⟩:=h
   cases c with
   | row e' size' es' =>
    obtain ⟨rfl,rfl,rfl⟩:=hm
    obtain ⟨v,ys,r1,_⟩:=h0
    have hv:=hV v (.inl ⟨_,_,_,rfl,r1⟩)
    have hl:es1.length=es.length:=hsp
    have h1':G.sv (σ i) es1.length=some (A.vl i):=by rw [hl,r1,hv]
    refine ⟨⟨A.vl i,xs,h1',h2,h3,h4,fun k c el u hk hc => ?_⟩,by simp only [outO,anO,obk]; rw [h1']; rfl⟩
    obtain ⟨x,g1,g2,g3⟩:=h5 k c el u hk hc
    exact ⟨x,g1,u.keep hM g2,g3⟩
   | rowA v e' size' es' =>
    obtain ⟨rfl,rfl,rfl⟩:=hm
    obtain ⟨ys,r1,_⟩:=h0
    have hv:=hV v (.inr ⟨_,_,_,rfl⟩)
    have hl:es1.length=es.length:=hsp
    rw [hv] at h1 h2
    refine ⟨⟨xs,by rw [hl]; exact r1,h2,h3,h4,fun k c el u hk hc => ?_⟩,by simp only [outO,anO,obk,hv]⟩
    obtain ⟨x,g1,g2,g3⟩:=h5 k c el u hk hc
    exact ⟨x,g1,u.keep hM g2,g3⟩
   | box _ _ _=>exact hm.elim
   | opq _ _=>exact hm.elim
  | row _ _ _=>simp [qm] at hs
  | opq _ _=>simp [qm] at hs
  | box _ _ _=>simp [qm] at hs
theorem RepO.rnNew {g G:Gh} {w:World} {M M':Blks} {σ:Nat→Nat} {own:Own} {i:Nat} {o:AObj} {A:An} (hM:Ext M M' w w) (hb1:∀ i,isB (own i)=true→∀ b,g.bl i=some b→G.bl (σ i)=some b) (hb2:∀ i,isR (own i)=true→∀ n v,g.sv i n=some v→G.sv (σ i) n=some v)
  (hi:own i=some (some o)) (ok:okQ own o=true) (hn:newB o=true) (h:RepO g w M i (anO A i o)) :
  RepO G w M' (σ i) (rnO σ o)∧obk G (σ i) (rnO σ o)=obk g i (anO A i o):=by
 cases o with
 | box an t cs =>
  cases an with
  | some q=>cases hn
  | none =>
   obtain ⟨b,l,h1,h00,h2,h3,h4⟩:=h
   refine ⟨⟨b,l,hb1 i (by rw [hi]; rfl) b h1,h00,h2,by simpa using h3,fun j s hsj => ?_⟩,by simp only [rnO,anO,obk]; rw [hb1 i (by rw [hi]; rfl) b h1,h1]⟩
   rw [List.getElem?_map] at hsj
   cases hq:cs[j]? with
   | none=>rw [hq] at hsj; cases hsj
   | some s' =>
    rw [hq] at hsj
    cases hsj
    obtain ⟨x,g1,g2,g3⟩:=h4 j s' hq
    exact ⟨x,g1,g2.rnOut hM hb1 hb2 ((List.all_eq_true.1 ok) s' (List.mem_of_getElem? hq)),g3⟩
 | row e size es =>
  obtain ⟨v,xs,h1,h2,h3,h4,h5⟩:=h
  refine ⟨⟨v,xs,hb2 i (by rw [hi]; rfl) _ _ h1,h2,h3,h4,fun k c el u hk hc => ?_⟩,by simp only [rnO,anO,obk]; rw [hb2 i (by rw [hi]; rfl) _ _ h1,h1]⟩
  obtain ⟨x,g1,g2,g3⟩:=h5 k c el u hk hc
  exact ⟨x,g1,u.keep hM g2,g3⟩
 | opq an R =>
  cases an with
  | some q=>cases hn
  | none =>
   obtain ⟨b,ob,h1,h00,h2,h3⟩:=h
   exact ⟨⟨b,ob,hb1 i (by rw [hi]; rfl) b h1,h00,h2,h3⟩,by simp only [rnO,anO,obk]; rw [hb1 i (by rw [hi]; rfl) b h1,h1]⟩
 | rowA _ _ _ _=>cases hn
end Go.Proofs.YtgdijjmdfcgifaaGreat
namespace Go.Proofs.YtgdijjmdfcgifaaGreat
open Go.RowKit
set_option linter.unusedVariables false

theorem y9y {σ:Nat→Nat}:∀ {l:List Nat},(l.map σ).Nodup→∀ i j,i∈l→j∈l→σ i=σ j→i=j
 | [],_,i,j,h,_,_=>by cases h
 | a::l,nd,i,j,hi,hj,h=>by
  have h1:=List.nodup_cons.1 nd
  rcases List.mem_cons.1 hi with ei | hi'
  ·rcases List.mem_cons.1 hj with ej | hj'
   ·rw [ei,ej]
   ·exact absurd (List.mem_map.2 ⟨j,hj',by rw [← h,ei]⟩) h1.1
  ·rcases List.mem_cons.1 hj with ej | hj'
   ·exact absurd (List.mem_map.2 ⟨i,hi',by rw [h,ej]⟩) h1.1
   ·exact y9y h1.2 i j hi' hj' h
theorem x1e {A:An} {l:List (Nat×AObj)} {i:Nat} {o:AObj}:(i,o)∈anL A l↔∃ p,(i,p)∈l∧o=anO A i p:=by
 rw [x1f,List.mem_map]
 constructor
 ·rintro ⟨⟨j,p⟩,h1,h2⟩; cases h2; exact ⟨p,h1,rfl⟩
 ·rintro ⟨p,h1,rfl⟩; exact ⟨(i,p),h1,rfl⟩
theorem y44 (A:An) (l:List (Nat×AObj)):(anL A l).map (·.1)=l.map (·.1):=by
 rw [x1f,List.map_map]; rfl
theorem z5z {L:List Ent} {i:Nat} {o:AObj}:(i,o)∈vi L↔∃ c p,(i,o,c,p)∈L:=by
 unfold vi
 rw [List.mem_map]
 constructor
 ·rintro ⟨⟨i',o',c,p⟩,h1,h2⟩; cases h2; exact ⟨c,p,h1⟩
 ·rintro ⟨c,p,h⟩; exact ⟨_,h,rfl⟩
theorem z1n {L:List Ent} {nw:List (Nat×AObj)} {i:Nat} {o:AObj}:(i,o)∈we L nw↔(∃ q c,(i,q,c,some o)∈L)∨(i,o)∈nw:=by
 unfold we
 rw [List.mem_append,List.mem_filterMap]
 constructor
 ·rintro (⟨⟨i',o',c,p⟩,h1,h2⟩ | h)
  ·cases p with
   | none=>cases h2
   | some p=>cases h2; exact .inl ⟨o',c,h1⟩
  ·exact .inr h
 ·rintro (⟨q,c,h⟩ | h)
  ·exact .inl ⟨_,h,rfl⟩
  ·exact .inr h
theorem y7v (L:List Ent):(vi L).map (·.1)=L.map (·.1):=by unfold vi; rw [List.map_map]; rfl
theorem x59 {L:List Ent} {nw:List (Nat×AObj)} (nd:(vk L nw).Nodup):((we L nw).map (·.1)).Nodup:=by
 refine List.Nodup.sublist ?_ nd
 unfold we vk
 rw [List.map_append]
 refine List.Sublist.append ?_ (List.Sublist.refl _)
 induction L with
 | nil=>exact List.Sublist.refl _
 | cons e L ih =>
  obtain ⟨i,o,c,p⟩:=e
  have ih':=ih (by
   unfold vk at nd ⊢
   simp only [List.map_cons,List.cons_append] at nd
   exact (List.nodup_cons.1 nd).2)
  cases p with
  | none=>exact List.Sublist.cons _ ih'
  | some q=>exact List.Sublist.cons_cons _ ih'
theorem Yy {L:List Ent} {nw:List (Nat×AObj)} {i:Nat}:i∈vk L nw↔(∃ o c p,(i,o,c,p)∈L)∨∃ o,(i,o)∈nw:=by
 unfold vk
 rw [List.mem_append,List.mem_map,List.mem_map]
 constructor
 ·rintro (⟨⟨i',o,c,p⟩,h,rfl⟩ | ⟨⟨i',o⟩,h,rfl⟩)
  ·exact .inl ⟨o,c,p,h⟩
  ·exact .inr ⟨o,h⟩
 ·rintro (⟨o,c,p,h⟩ | ⟨o,h⟩)
  ·exact .inl ⟨_,h,rfl⟩
  ·exact .inr ⟨_,h,rfl⟩
theorem z7x (σ:Nat→Nat) (L:List Ent) (nw:List (Nat×AObj)):keys (wrOf σ L nw)=(vk L nw).map σ:=by
 unfold keys wrOf vk
 simp only [List.map_append,List.map_map]
 rfl
theorem y5c {σ:Nat→Nat} {L:List Ent} {nw:List (Nat×AObj)} {k:Nat} {q:Option (Option AObj)}:(k,q)∈wrOf σ L nw↔(∃ i o c p,(i,o,c,p)∈L∧k=σ i∧q=some (p.map (outO σ c)))∨∃ i o,(i,o)∈nw∧k=σ i∧q=some (some (rnO σ o)):=by
 unfold wrOf
 rw [List.mem_append,List.mem_map,List.mem_map]
 constructor
 ·rintro (⟨⟨i,o,c,p⟩,h,h2⟩ | ⟨⟨i,o⟩,h,h2⟩)
  ·cases h2; exact .inl ⟨i,o,c,p,h,rfl,rfl⟩
  ·cases h2; exact .inr ⟨i,o,h,rfl,rfl⟩
 ·rintro (⟨i,o,c,p,h,rfl,rfl⟩ | ⟨i,o,h,rfl,rfl⟩)
  ·exact .inl ⟨_,h,rfl⟩
  ·exact .inr ⟨_,h,rfl⟩
theorem x65 {L:List Ent} {nw:List (Nat×AObj)} (nd:(vk L nw).Nodup) {i:Nat} {o c:AObj} {p:Option AObj} {o':AObj} (h1:(i,o,c,p)∈L) (h2:(i,o')∈nw):False:=by
 unfold vk at nd
 have:=(List.nodup_append.1 nd).2.2 i (List.mem_map.2 ⟨_,h1,rfl⟩) i (List.mem_map.2 ⟨_,h2,rfl⟩)
 exact this rfl

section
variable {P:Program} {f:Nat→Slot} {dst:Option Tmp} {ty:TypeId} {pos:String} {af:Array Edge} {gd:Option (Nat×Bool)}
theorem x43 {C:An→Prop} {o:Oper} {fn:Nat} {args:List Slot} {res:Slot} (σ:Nat→Nat) (L:List Ent) (nw:List (Nat×AObj)) (hF:FnC C P fn args (vi L) res (we L nw)) (hC:∀ A:An,(∀ i o c p,(i,o,c,p)∈L→(∀ b t cs,c = .box (some b) t cs→A.bl i=b)∧∀ v e size es,c = .rowA v e size es→A.vl i=v)→C A)
  (hE:∀ (g:Gh) (a:Act) (w:World) (M:Blks),(∀ y,y∈o.op.operands→RepS g w M (evS f y) (a.eval y))→∃ vs:Array Value,(execOp a.eval o).run P w = .ok (.enter fn vs) w∧vs.size=args.length∧∀ (j:Nat) (s:Slot),args[j]?=some s→∃ v,vs[j]?=some v∧RepS g w M (rnS σ s) v)
  (hm:matL σ L)
  (hnd:ndB (vk L nw)=true) (hnd2:ndB ((vk L nw).map σ)=true) (hst:L.all (fun e=>qm e.2.1 e.2.2.2)=true) (hnw:nw.all (fun p=>newB p.2 && okQ (ows (we L nw)) p.2)=true) (hc1:(args.all (okS (ows (vi L))) && (vi L).all fun p=>okO (ows (vi L)) p.2)=true) (hc2:(okT (ows (we L nw)) res && (we L nw).all fun p=>okP (ows (we L nw)) p.2)=true) :
  Stp P o f ⟨false,rdOf σ L nw,wrOf σ L nw,rnS σ res⟩:=by
 intro X f' own g a w Q hr hd hx hrd K hK
 have nd:=Zq hnd
 have nd2:=Zq hnd2
 have hinj:=y9y nd2
 have ndPre:((vi L).map (·.1)).Nodup:=by rw [y7v]; unfold vk at nd; exact (List.nodup_append.1 nd).1
 have ndPost:=x59 nd
 have hown:∀ i o c p,(i,o,c,p)∈L→own (σ i)=some (some c):=fun i o c p h=>hrd (σ i,some (some c)) (by unfold rdOf; exact List.mem_append.2 (.inl (List.mem_map.2 ⟨_,h,rfl⟩)))
 have hnone:∀ i o,(i,o)∈nw→own (σ i)=none:=fun i o h=>hrd (σ i,none) (by unfold rdOf; exact List.mem_append.2 (.inr (List.mem_map.2 ⟨_,h,rfl⟩)))
 let B:Nat→Prop:=fun b=>∃ i o c p,(i,o,c,p)∈L∧obk g (σ i) c=some b
 let S0:List Nat:=L.filterMap fun e=>obk g (σ e.1) e.2.2.1
 have hS0:∀ b,b∈S0↔B b:=fun b=>by
  simp only [S0,List.mem_filterMap,B]
  constructor
  ·rintro ⟨⟨i,o,c,p⟩,h1,h2⟩; exact ⟨i,o,c,p,h1,h2⟩
  ·rintro ⟨i,o,c,p,h1,h2⟩; exact ⟨_,h1,h2⟩
 let M:Blks:=Mof X g own
 have hBM:∀ b,B b→M b:=fun b ⟨i,o,c,p,h1,h2⟩ => .inr ⟨σ i,c,hown i o c p h1,h2⟩
 let X':Ctx:=⟨fun b=>M b∧¬ B b,w,S0,0,none,[]⟩
 let g':Gh:=⟨fun i=>if i∈L.map (·.1) then g.bl (σ i) else none,fun i n=>if i∈L.map (·.1) then g.sv (σ i) n else none⟩
 let A:An:=⟨fun i=>(g.bl (σ i)).getD 0,fun i=>match own (σ i) with | some (some (.row _ _ es))=>(g.sv (σ i) es.length).getD undef | some (some (.rowA v _ _ _))=>v | _=>undef⟩
 have hA:∀ i b,g.bl (σ i)=some b→A.bl i=b:=fun i b h=>by simp only [A,h,Option.getD_some]
 have hV:∀ i o c p,(i,o,c,p)∈L→∀ v,(∃ e size es,c = .row e size es∧g.sv (σ i) es.length=some v)∨(∃ e size es,c = .rowA v e size es)→A.vl i=v:=by
  intro i o c p h v hv
  rcases hv with ⟨e,size,es,rfl,hs⟩ | ⟨e,size,es,rfl⟩
  ·simp only [A,hown i o _ p h,hs,Option.getD_some]
  ·simp only [A,hown i o _ p h]
 have inL:∀ i o c p,(i,o,c,p)∈L→i∈L.map (·.1):=fun i o c p h=>List.mem_map.2 ⟨_,h,rfl⟩
 have hliv:∀ i,qp (ows (vi L)) i=true→i∈L.map (·.1):=fun i h=>by
  obtain ⟨o,ho⟩:=jy h
  obtain ⟨c,p,h1⟩:=z5z.1 ((qg ndPre).1 ho)
  exact inL i o c p h1
 have hg':∀ i,qp (ows (vi L)) i=true→g'.bl i=g.bl (σ i)∧∀ n,g'.sv i n=g.sv (σ i) n:=fun i h=>⟨if_pos (hliv i h),fun n=>if_pos (hliv i h)⟩
 have hlive:∀ i o c p,(i,o,c,p)∈L→qp (ows (vi L)) i=true:=fun i o c p h=>by
  unfold qp
  rw [(qg ndPre).2 (z5z.2 ⟨c,p,h⟩)]
 have hc1':=Bool.and_eq_true_iff.1 hc1
 have hc2':=Bool.and_eq_true_iff.1 hc2
 have hokpre:∀ i o c p,(i,o,c,p)∈L→okO (ows (vi L)) o=true:=fun i o c p h=>(List.all_eq_true.1 hc1'.2) (i,o) (z5z.2 ⟨c,p,h⟩)
 have hin:∀ i o c p,(i,o,c,p)∈L→∀ M',Ext M M' w w→RepO g' w M' i (anO A i o)∧obk g' i (anO A i o)=obk g (σ i) c:=fun i o c p h M' he =>
  RepO.rnIn he hg' (hlive i o c p h) (hokpre i o c p h) (Qy hm _ h).1 (hA i) (hV i o c p h) (hr.ob (σ i) c (hown i o c p h))
 have hMM0:Ext M M w w:=⟨Nat.le_refl _,fun _ _ _ _=>rfl,fun _ _ h=>h⟩
 have hpre:∀ i o,ows (anL A (vi L)) i=some (some o)↔∃ q c p,(i,q,c,p)∈L∧o=anO A i q:=fun i o=>by
  rw [qg (by rw [y44]; exact ndPre),x1e]
  constructor
  ·rintro ⟨q,h1,h2⟩; obtain ⟨c,p,h3⟩:=z5z.1 h1; exact ⟨q,c,p,h3,h2⟩
  ·rintro ⟨q,c,p,h1,h2⟩; exact ⟨q,z5z.2 ⟨c,p,h1⟩,h2⟩
 have hMM:∀ b,Mof X' g' (ows (anL A (vi L))) b→M b:=fun b hb=>by
  rcases hb with hb | ⟨i,o,h1,h2⟩
  ·exact hb.1
  ·obtain ⟨q,c,p,h3,rfl⟩:=(hpre i o).1 h1
   rw [(hin i q c p h3 M hMM0).2] at h2
   exact .inr ⟨σ i,c,hown i q c p h3,h2⟩
 have heM:Ext M (Mof X' g' (ows (anL A (vi L)))) w w:=⟨Nat.le_refl _,fun _ _ _ _=>rfl,fun b _ h=>hMM b h⟩
 have hmem:Mem X' (ows (anL A (vi L))) g' w:=by
  refine ⟨Kp.refl _ _,⟨fun b hb=>⟨hr.mlt.1 b hb.1,fun h=>hb.2 ((hS0 b).1 h)⟩,hr.mlt.2.1,fun b hb=>⟨fun h=>hr.mlt.2.2 b hb h.1,fun h=>hr.mlt.2.2 b hb (hBM b ((hS0 b).1 h))⟩⟩,fun i o ho => ?_,fun i i' o o' b h1 h2 h3 h4 => ?_,fun i o b h1 h2 => ?_,fun i hi => ?_,fun i e size es h1 k hk => ?_⟩
  ·obtain ⟨q,c,p,h3,rfl⟩:=(hpre i o).1 ho
   exact (hin i q c p h3 _ heM).1
  ·obtain ⟨q,c,p,r1,rfl⟩:=(hpre i o).1 h1
   obtain ⟨q',c',p',r2,rfl⟩:=(hpre i' o').1 h2
   rw [(hin i q c p r1 M hMM0).2] at h3
   rw [(hin i' q' c' p' r2 M hMM0).2] at h4
   exact hinj i i' (Yy.2 (.inl ⟨q,c,p,r1⟩)) (Yy.2 (.inl ⟨q',c',p',r2⟩)) (hr.sep _ _ _ _ b (hown i q c p r1) (hown i' q' c' p' r2) h3 h4)
  ·obtain ⟨q,c,p,r1,rfl⟩:=(hpre i o).1 h1
   rw [(hin i q c p r1 M hMM0).2] at h2
   exact .inl ((hS0 b).2 ⟨i,q,c,p,r1,h2⟩)
  ·have hn:i ∉ L.map (·.1):=by
    have:=jp.1 hi
    rw [y44,y7v] at this
    exact this
   exact ⟨if_neg hn,fun n=>if_neg hn⟩
  ·obtain ⟨q,c,p,r1,r2⟩:=(hpre i _).1 h1
   have hmt:=(Qy hm _ r1).1
   have hbl:=(hg' i (hlive i q c p r1)).2
   cases q with
   | row e' size' es' =>
    cases r2
    cases c with
    | row e2 size2 es2 =>
     obtain ⟨rfl,rfl,rfl⟩:=hmt
     rw [hbl]
     exact hr.top (σ i) _ _ _ (hown i _ _ p r1) k hk
    | box _ _ _=>exact hmt.elim
    | opq _ _=>exact hmt.elim
    | rowA _ _ _ _=>exact hmt.elim
   | box an t cs=>cases an <;> cases r2
   | opq an R=>cases an <;> cases r2
   | rowA _ _ _ _=>cases r2
 obtain ⟨vs,hrun,hlen,hargs⟩:=hE g a w M fun y hy=>by
  rw [← hx y hy]; exact hr.ev y
 unfold Oper.wp
 rw [hrun]
 show Calls P fn vs w _
 have hCA:C A:=hC A fun i o c p h=>⟨fun b t cs hc=>hA i b (by
  have:=hr.ob (σ i) c (hown i o c p h)
  rw [hc] at this
  obtain ⟨b',l,h1,h2,_⟩:=this
  rw [h1,h2 b rfl]),fun v e size es hc=>hV i o c p h v (.inr ⟨e,size,es,hc⟩)⟩
 refine (hF.2 X' A g' w vs hCA rfl hmem hlen (fun j s hj => ?_)).mono ?_
 ·obtain ⟨v,h1,h2⟩:=hargs j s hj
  refine ⟨v,h1,h2.rnIn heM hg' ((List.all_eq_true.1 hc1'.1) s (List.mem_of_getElem? hj))⟩
 rintro e w' ⟨v,g'',rfl,hm2,hres⟩
 let fnd:Nat→Option Nat:=fun k=>(nw.map (·.1)).find? fun j=>Nat.beq (σ j) k
 let G:Gh:=⟨fun k=>match fnd k with | some j=>g''.bl j | none=>g.bl k,fun k n=>match fnd k with | some j=>g''.sv j n | none=>g.sv k n⟩
 have hfnew:∀ i o,(i,o)∈nw→fnd (σ i)=some i:=fun i o h=>by
  have hmem:i∈nw.map (·.1):=List.mem_map.2 ⟨_,h,rfl⟩
  cases hq:fnd (σ i) with
  | none =>
   have:=List.find?_eq_none.1 hq i hmem
   simp at this
  | some j =>
   have h1:=List.find?_some hq
   have h2:=List.mem_of_find?_eq_some hq
   obtain ⟨⟨j',o'⟩,h3,h4⟩:=List.mem_map.1 h2
   simp only at h4
   subst h4
   have h5:σ j'=σ i:=Nat.eq_of_beq_eq_true h1
   rw [hinj j' i (Yy.2 (.inr ⟨o',h3⟩)) (Yy.2 (.inr ⟨o,h⟩)) h5]
 have hfold:∀ k,(∀ i o,(i,o)∈nw→σ i≠k)→fnd k=none:=fun k h=>by
  refine List.find?_eq_none.2 fun j hj => ?_
  obtain ⟨⟨j',o'⟩,h3,h4⟩:=List.mem_map.1 hj
  simp only at h4
  subst h4
  intro hb
  exact h j' o' h3 (Nat.eq_of_beq_eq_true hb)
 have hGnew:∀ i o,(i,o)∈nw→G.bl (σ i)=g''.bl i∧∀ n,G.sv (σ i) n=g''.sv i n:=fun i o h=>by
  simp only [G,hfnew i o h,and_self,implies_true]
 have hGold:∀ k,(∀ i o,(i,o)∈nw→σ i≠k)→G.bl k=g.bl k∧∀ n,G.sv k n=g.sv k n:=fun k h=>by
  simp only [G,hfold k h,and_self,implies_true]
 have hGL:∀ i o c p,(i,o,c,p)∈L→G.bl (σ i)=g.bl (σ i)∧∀ n,G.sv (σ i) n=g.sv (σ i) n:=fun i o c p h=>hGold (σ i) fun j o' hj he=>by
  have:=hinj j i (Yy.2 (.inr ⟨o',hj⟩)) (Yy.2 (.inl ⟨o,c,p,h⟩)) he
  subst this
  exact x65 nd h hj
 have hGown:∀ k o,own k=some (some o)→G.bl k=g.bl k∧∀ n,G.sv k n=g.sv k n:=fun k o h=>hGold k fun i o' hi he=>by
  have:=hnone i o' hi
  rw [he,h] at this
  cases this
 have hle:g.le G:=by
  refine ⟨fun k b hb => ?_,fun k n v hv => ?_⟩
  ·cases hq:fnd k with
   | none=>simp only [G,hq]; exact hb
   | some j =>
    exfalso
    obtain ⟨⟨j',o'⟩,h3,h4⟩:=List.mem_map.1 (List.mem_of_find?_eq_some hq)
    simp only at h4
    subst h4
    have h50:=List.find?_some hq
    have h5:σ j'=k:=Nat.eq_of_beq_eq_true h50
    have h6:=(hr.fresh (σ j') (hnone j' o' h3)).1
    rw [h5,hb] at h6
    cases h6
  ·cases hq:fnd k with
   | none=>simp only [G,hq]; exact hv
   | some j =>
    exfalso
    obtain ⟨⟨j',o'⟩,h3,h4⟩:=List.mem_map.1 (List.mem_of_find?_eq_some hq)
    simp only at h4
    subst h4
    have h50:=List.find?_some hq
    have h5:σ j'=k:=Nat.eq_of_beq_eq_true h50
    have h6:=(hr.fresh (σ j') (hnone j' o' h3)).2 n
    rw [h5,hv] at h6
    cases h6
 have hpost:∀ i o,ows (anL A (we L nw)) i=some (some o)↔∃ p,((∃ q c,(i,q,c,some p)∈L)∨(i,p)∈nw)∧o=anO A i p:=fun i o=>by
  rw [qg (by rw [y44]; exact ndPost),x1e]
  constructor
  ·rintro ⟨q,h1,h2⟩; exact ⟨q,z1n.1 h1,h2⟩
  ·rintro ⟨q,h1,h2⟩; exact ⟨q,z1n.2 h1,h2⟩
 have hstay:∀ i q c p,(i,q,c,p)∈L→qm q p=true:=fun i q c p h=>(List.all_eq_true.1 hst) (i,q,c,p) h
 have hnewB:∀ i o,(i,o)∈nw→newB o=true:=fun i o h=>(Bool.and_eq_true_iff.1 ((List.all_eq_true.1 hnw) (i,o) h)).1
 have hnewQ:∀ i o,(i,o)∈nw→okQ (ows (we L nw)) o=true:=fun i o h=>(Bool.and_eq_true_iff.1 ((List.all_eq_true.1 hnw) (i,o) h)).2
 have howp:∀ i p,((∃ q c,(i,q,c,some p)∈L)∨(i,p)∈nw)→ows (we L nw) i=some (some p):=fun i p h=>(qg ndPost).2 (z1n.2 h)
 have hb1:∀ i,isB (ows (we L nw) i)=true→∀ b,g''.bl i=some b→G.bl (σ i)=some b:=fun i hi b hb=>by
  cases ho:ows (we L nw) i with
  | none=>rw [ho] at hi; cases hi
  | some oo =>
   cases oo with
   | none=>rw [ho] at hi; cases hi
   | some p =>
    have hp:=z1n.1 ((qg ndPost).1 ho)
    have hob:=hm2.ob i (anO A i p) ((hpost i _).2 ⟨p,hp,rfl⟩)
    rcases hp with ⟨q,c,hL⟩ | hN
    ·have hs:=hstay i q c (some p) hL
     have hmt:=(Qy hm _ hL).1
     have hc:=hr.ob (σ i) c (hown i q c _ hL)
     rw [(hGL i q c _ hL).1]
     cases q with
     | box an t cs =>
      cases an with
      | none=>cases p <;> simp [qm] at hs
      | some z =>
       cases p with
       | box an' t' cs' =>
        cases an' with
        | none=>simp [qm] at hs
        | some z' =>
         cases c with
         | box an2 t2 cs2 =>
          obtain ⟨b',l',r1,r0,_⟩:=hc
          obtain ⟨b2,l2,s1,s0,_⟩:=hob
          rw [hb] at s1
          cases s1
          have e1:=s0 _ rfl
          rw [hA i b' r1] at e1
          rw [r1,e1]
         | row _ _ _=>exact hmt.elim
         | opq _ _=>exact hmt.elim
         | rowA _ _ _ _=>exact hmt.elim
       | row _ _ _=>simp [qm] at hs
       | opq _ _=>simp [qm] at hs
       | rowA _ _ _ _=>simp [qm] at hs
     | row e size es=>cases p <;> simp [qm] at hs
     | opq an R =>
      cases an with
      | none=>cases p <;> simp [qm] at hs
      | some z =>
       cases p with
       | opq an' R' =>
        cases an' with
        | none=>simp [qm] at hs
        | some z' =>
         cases c with
         | opq an2 R2 =>
          obtain ⟨b',l',r1,r0,_⟩:=hc
          obtain ⟨b2,l2,s1,s0,_⟩:=hob
          rw [hb] at s1
          cases s1
          have e1:=s0 _ rfl
          rw [hA i b' r1] at e1
          rw [r1,e1]
         | row _ _ _=>exact hmt.elim
         | box _ _ _=>exact hmt.elim
         | rowA _ _ _ _=>exact hmt.elim
       | row _ _ _=>simp [qm] at hs
       | box _ _ _=>simp [qm] at hs
       | rowA _ _ _ _=>simp [qm] at hs
     | rowA v0 e size es =>
      cases p with
      | rowA _ _ _ _=>rw [ho] at hi; cases hi
      | row _ _ _=>simp [qm] at hs
      | opq _ _=>simp [qm] at hs
      | box _ _ _=>simp [qm] at hs
    ·rw [(hGnew i p hN).1]; exact hb
 have hb2:∀ i,isR (ows (we L nw) i)=true→∀ n v,g''.sv i n=some v→G.sv (σ i) n=some v:=fun i hi n v hv=>by
  cases ho:ows (we L nw) i with
  | none=>rw [ho] at hi; cases hi
  | some oo =>
   cases oo with
   | none=>rw [ho] at hi; cases hi
   | some p =>
    rcases z1n.1 ((qg ndPost).1 ho) with ⟨q,c,hL⟩ | hN
    ·have hs:=hstay i q c (some p) hL
     cases p with
     | row _ _ _ =>
      cases q with
      | box an t cs=>cases an <;> simp [qm] at hs
      | opq an R=>cases an <;> simp [qm] at hs
      | row _ _ _=>simp [qm] at hs
      | rowA _ _ _ _=>simp [qm] at hs
     | box _ _ _=>rw [ho] at hi; cases hi
     | opq _ _=>rw [ho] at hi; cases hi
     | rowA _ _ _ _=>rw [ho] at hi; cases hi
    ·rw [(hGnew i p hN).2]; exact hv
 let M2:Blks:=Mof X' g'' (ows (anL A (we L nw)))
 have hM20:Ext M2 M2 w' w':=⟨Nat.le_refl _,fun _ _ _ _=>rfl,fun _ _ h=>h⟩
 have hGob:∀ k o,own k=some (some o)→RepO G w M k o:=fun k o h=>by
  have h1:=hr.ob k o h
  exact h1.keep hMM0 hle fun b _=>rfl
 have hokpost:∀ i p,((∃ q c,(i,q,c,some p)∈L)∨(i,p)∈nw)→okP (ows (we L nw)) p=true:=fun i p h=>(List.all_eq_true.1 hc2'.2) (i,p) (z1n.2 h)
 have inA:∀ i v e size es,ows (we L nw) i=some (some (.rowA v e size es))→∃ q c,(i,q,c,some (.rowA v e size es))∈L:=fun i v e size es ho=>by
  rcases z1n.1 ((qg ndPost).1 ho) with hL | hN
  ·exact hL
  ·have:=hnewB i _ hN; cases this
 have ndL:((z9i L).map (·.1)).Nodup:=by
  have h1:=ndPost
  unfold we at h1
  rw [List.map_append] at h1
  exact (List.nodup_append.1 h1).1
 have ho1:∀ i v e size es,ows (we L nw) i=some (some (.rowA v e size es))→ows (z9i L) i=ows (we L nw) i:=fun i v e size es ho=>by
  obtain ⟨q,c,h1⟩:=inA i v e size es ho
  rw [ho,(qg ndL).2]
  exact List.mem_filterMap.2 ⟨_,h1,rfl⟩
 have hb3:∀ i v e size es,ows (we L nw) i=some (some (.rowA v e size es))→∀ x,g''.sv i es.length=some x→G.sv (σ i) es.length=some x:=fun i v e size es ho x hx=>by
  obtain ⟨q,c,h1⟩:=inA i v e size es ho
  have hs:=hstay i q c _ h1
  have hmt:=(Qy hm _ h1).1
  have hsp:=(Qy hm _ h1).2
  obtain ⟨xs,r1,_⟩:=hm2.ob i _ ((hpost i _).2 ⟨_,.inl ⟨q,c,h1⟩,rfl⟩)
  rw [hx] at r1
  cases r1
  cases q with
  | box an t cs=>cases an <;> simp [qm] at hs
  | opq an R=>cases an <;> simp [qm] at hs
  | row _ _ _=>simp [qm] at hs
  | rowA v0 e0 size0 es0 =>
   have hl:es.length=es0.length:=hsp
   have hG:=hGob (σ i) c (hown i _ c _ h1)
   cases c with
   | row e' size' es' =>
    obtain ⟨rfl,rfl,rfl⟩:=hmt
    obtain ⟨v1,ys,s1,_⟩:=hG
    have hg0:g.sv (σ i) es0.length=some v1:=by rw [← (hGL i _ _ _ h1).2]; exact s1
    rw [hl,s1,hV i _ _ _ h1 v1 (.inl ⟨_,_,_,rfl,hg0⟩)]
   | rowA v1 e' size' es' =>
    obtain ⟨rfl,rfl,rfl⟩:=hmt
    obtain ⟨ys,s1,_⟩:=hG
    rw [hl,s1,hV i _ _ _ h1 v1 (.inr ⟨_,_,_,rfl⟩)]
   | box _ _ _=>exact hmt.elim
   | opq _ _=>exact hmt.elim
 have hout:∀ i q c p,(i,q,c,some p)∈L→∀ M',Ext M2 M' w' w'→RepO G w' M' (σ i) (outO σ c p)∧obk G (σ i) (outO σ c p)=obk g'' i (anO A i p):=fun i q c p h M' he =>
  RepO.rnStay he hb1 hb2 hb3 ho1 (howp i p (.inl ⟨q,c,h⟩)) (Qy hm _ h).2 (hokpost i p (.inl ⟨q,c,h⟩)) (Qy hm _ h).1 (hstay i q c _ h) (fun b hb=>hA i b (by rw [← (hGL i q c _ h).1]; exact hb))
   (fun v hv=>hV i q c _ h v (by
    rcases hv with ⟨e,size,es,h1,h2⟩ | hv
    ·exact .inl ⟨e,size,es,h1,by rw [← (hGL i q c _ h).2]; exact h2⟩
    ·exact .inr hv)) (hGob (σ i) c (hown i q c _ h)) (hm2.ob i _ ((hpost i _).2 ⟨p,.inl ⟨q,c,h⟩,rfl⟩))
 have houtN:∀ i p,(i,p)∈nw→∀ M',Ext M2 M' w' w'→RepO G w' M' (σ i) (rnO σ p)∧obk G (σ i) (rnO σ p)=obk g'' i (anO A i p):=fun i p h M' he =>
  RepO.rnNew he hb1 hb2 (howp i p (.inr h)) (hnewQ i p h) (hnewB i p h) (hm2.ob i _ ((hpost i _).2 ⟨p,.inr h,rfl⟩))
 let own2:Own:=upl own (wrOf σ L nw)
 have hown2:∀ k o,own2 k=some (some o)→((k ∉ (vk L nw).map σ)∧own k=some (some o))∨(∃ i q c p,(i,q,c,some p)∈L∧k=σ i∧o=outO σ c p)∨∃ i p,(i,p)∈nw∧k=σ i∧o=rnO σ p:=fun k o h=>by
  rcases z45 own (wrOf σ L nw) k with ⟨h1,h2⟩ | ⟨q,h1,h2⟩
  ·rw [z7x] at h1
   exact .inl ⟨h1,by rw [← h2]; exact h⟩
  ·have hq:q=some (some o):=by rw [← h2]; exact h
   subst hq
   rcases y5c.1 h1 with ⟨i,q,c,p,r1,r2,r3⟩ | ⟨i,p,r1,r2,r3⟩
   ·cases p with
    | none=>cases r3
    | some p=>cases r3; exact .inr (.inl ⟨i,q,c,p,r1,r2,rfl⟩)
   ·cases r3; exact .inr (.inr ⟨i,p,r1,r2,rfl⟩)
 -- the block of an object behind the call
 have hblk:∀ k o b,own2 k=some (some o)→obk G k o=some b→((k ∉ (vk L nw).map σ)∧own k=some (some o)∧obk g k o=some b)∨∃ i p,k=σ i∧i∈vk L nw∧ows (anL A (we L nw)) i=some (some (anO A i p))∧obk g'' i (anO A i p)=some b:=fun k o b h hb=>by
  rcases hown2 k o h with ⟨h1,h2⟩ | ⟨i,q,c,p,h1,rfl,rfl⟩ | ⟨i,p,h1,rfl,rfl⟩
  ·refine .inl ⟨h1,h2,?_⟩
   have:=(hr.ob k o h2).obk_eq hle
   rw [this] at hb
   exact hb
  ·rw [(hout i q c p h1 M2 hM20).2] at hb
   exact .inr ⟨i,p,rfl,Yy.2 (.inl ⟨q,c,_,h1⟩),(hpost i _).2 ⟨p,.inl ⟨q,c,h1⟩,rfl⟩,hb⟩
  ·rw [(houtN i p h1 M2 hM20).2] at hb
   exact .inr ⟨i,p,rfl,Yy.2 (.inr ⟨p,h1⟩),(hpost i _).2 ⟨p,.inr h1,rfl⟩,hb⟩
 have hnB:∀ k o b,k ∉ (vk L nw).map σ→own k=some (some o)→obk g k o=some b→¬ B b:=fun k o b h1 h2 h3 ⟨i,q,c,p,r1,r2⟩=>by
  have:=hr.sep _ _ _ _ b h2 (hown i q c p r1) h3 r2
  subst this
  exact h1 (List.mem_map.2 ⟨i,Yy.2 (.inl ⟨q,c,p,r1⟩),rfl⟩)
 have hm0B:∀ b,X.M0 b→¬ B b:=fun b h ⟨i,q,c,p,r1,r2⟩=>by
  have h5:=hr.m0.1 b h
  rcases hr.mine _ _ b (hown i q c p r1) r2 with h6 | h6
  ·exact h5.2 h6
  ·have:=h5.1
   omega
 have hMn:∀ b,Mof X G own2 b→M2 b:=fun b hb=>by
  rcases hb with hb | ⟨k,o,h1,h2⟩
  ·exact .inl ⟨.inl hb,hm0B b hb⟩
  ·rcases hblk k o b h1 h2 with ⟨q1,q2,q3⟩ | ⟨i,p,q1,q2,q3,q4⟩
   ·exact .inl ⟨.inr ⟨k,o,q2,q3⟩,hnB k o b q1 q2 q3⟩
   ·exact .inr ⟨i,_,q3,q4⟩
 have heO:Ext M2 (Mof X G own2) w' w':=⟨Nat.le_refl _,fun _ _ _ _=>rfl,fun b _ h=>hMn b h⟩
 have hkp:Kp S0 w w':=hm2.kp
 have he:Ext M (Mof X G own2) w w':=by
  refine ⟨hkp.size,fun b hb hM _=>hkp.block b hb fun h=>hM (hBM b ((hS0 b).1 h)),fun b hb hM => ?_⟩
  rcases hMn b hM with h1 | ⟨i,o,h1,h2⟩
  ·exact h1.1
  ·rcases hm2.mine i o b h1 h2 with h3 | h3
   ·exact hBM b ((hS0 b).1 h3)
   ·have h4:w.heap.size≤b:=h3
    omega
 have hpostB:∀ i o b,ows (anL A (we L nw)) i=some (some o)→obk g'' i o=some b→B b∨w.heap.size≤b:=fun i o b h1 h2=>by
  rcases hm2.mine i o b h1 h2 with h3 | h3
  ·exact .inl ((hS0 b).1 h3)
  ·exact .inr h3
 have hrel:Rel X f' own2 G a w':=by
  refine ⟨hr.kp.trans hkp fun q hq => ?_,hr.m0,hr.n,hr.df,fun t=>(hr.fr t).keep he hle,fun k o h => ?_,fun k k' o o' b h1 h2 h3 h4 => ?_,fun k o b h1 h2 => ?_,fun k h => ?_,fun k e size es h n hn => ?_⟩
  ·obtain ⟨i,q',c,p,r1,r2⟩:=(hS0 q).1 hq
   exact hr.mine _ _ q (hown i q' c p r1) r2
  ·rcases hown2 k o h with ⟨h1,h2⟩ | ⟨i,q,c,p,h1,rfl,rfl⟩ | ⟨i,p,h1,rfl,rfl⟩
   ·exact (hr.ob k o h2).keep he hle fun b hb=>hkp.block b ((hr.ob k o h2).blk_lt hb) fun hs=>hnB k o b h1 h2 hb ((hS0 b).1 hs)
   ·exact (hout i q c p h1 _ heO).1
   ·exact (houtN i p h1 _ heO).1
  ·rcases hblk k o b h1 h3 with ⟨q1,q2,q3⟩ | ⟨i,p,q1,q2,q3,q4⟩
   ·rcases hblk k' o' b h2 h4 with ⟨r1,r2,r3⟩ | ⟨i',p',r1,r2,r3,r4⟩
    ·exact hr.sep k k' o o' b q2 r2 q3 r3
    ·exfalso
     rcases hpostB i' _ b r3 r4 with h5 | h5
     ·exact hnB k o b q1 q2 q3 h5
     ·have:=(hr.ob k o q2).blk_lt q3
      omega
   ·rcases hblk k' o' b h2 h4 with ⟨r1,r2,r3⟩ | ⟨i',p',r1,r2,r3,r4⟩
    ·exfalso
     rcases hpostB i _ b q3 q4 with h5 | h5
     ·exact hnB k' o' b r1 r2 r3 h5
     ·have:=(hr.ob k' o' r2).blk_lt r3
      omega
    ·rw [q1,r1,hm2.sep i i' _ _ b q3 r3 q4 r4]
  ·rcases hblk k o b h1 h2 with ⟨q1,q2,q3⟩ | ⟨i,p,q1,q2,q3,q4⟩
   ·exact hr.mine k o b q2 q3
   ·rcases hpostB i _ b q3 q4 with ⟨i',q',c,p',r1,r2⟩ | h5
    ·exact hr.mine _ _ b (hown i' q' c p' r1) r2
    ·exact .inr (Nat.le_trans hr.kp.size h5)
  ·rcases z45 own (wrOf σ L nw) k with ⟨h1,h2⟩ | ⟨q,h1,h2⟩
   ·rw [z7x] at h1
    have h3:own k=none:=by rw [← h2]; exact h
    obtain ⟨e1,e2⟩:=hGold k fun i o hi hk=>h1 (List.mem_map.2 ⟨i,Yy.2 (.inr ⟨o,hi⟩),hk⟩)
    rw [e1]
    exact ⟨(hr.fresh k h3).1,fun n=>by rw [e2]; exact (hr.fresh k h3).2 n⟩
   ·have hq:q=none:=by rw [← h2]; exact h
    subst hq
    rcases y5c.1 h1 with ⟨i,q,c,p,r1,r2,r3⟩ | ⟨i,p,r1,r2,r3⟩ <;> cases r3
  ·rcases hown2 k _ h with ⟨h1,h2⟩ | ⟨i,q,c,p,h1,rfl,h3⟩ | ⟨i,p,h1,rfl,h3⟩
   ·rw [(hGown k _ h2).2]
    exact hr.top k e size es h2 n hn
   ·have hs:=hstay i q c _ h1
    have hmt:=(Qy hm _ h1).1
    have hsp:=(Qy hm _ h1).2
    cases q with
    | box an t cs =>
     cases an with
     | none=>cases p <;> simp [qm] at hs
     | some z =>
      cases p with
      | box an' t' cs' =>
       cases c with
       | box _ _ _=>cases h3
       | row _ _ _=>exact hmt.elim
       | opq _ _=>exact hmt.elim
       | rowA _ _ _ _=>exact hmt.elim
      | row _ _ _=>simp [qm] at hs
      | opq _ _=>simp [qm] at hs
      | rowA _ _ _ _=>simp [qm] at hs
    | row _ _ _=>cases p <;> simp [qm] at hs
    | opq an R =>
     cases an with
     | none=>cases p <;> simp [qm] at hs
     | some z =>
      cases p with
      | opq an' R' =>
       cases c with
       | opq _ _=>cases h3
       | row _ _ _=>exact hmt.elim
       | box _ _ _=>exact hmt.elim
       | rowA _ _ _ _=>exact hmt.elim
      | row _ _ _=>simp [qm] at hs
      | box _ _ _=>simp [qm] at hs
      | rowA _ _ _ _=>simp [qm] at hs
    | rowA v0 e0 size0 es0 =>
     cases p with
     | rowA v1 e1 size1 es1 =>
      cases c with
      | row e2 size2 es2 =>
       cases h3
       obtain ⟨rfl,rfl,rfl⟩:=hmt
       have hl:es.length=es0.length:=hsp
       rw [(hGL i _ _ _ h1).2]
       exact hr.top (σ i) _ _ _ (hown i _ _ _ h1) n (by omega)
      | rowA _ _ _ _=>cases h3
      | box _ _ _=>exact hmt.elim
      | opq _ _=>exact hmt.elim
     | row _ _ _=>simp [qm] at hs
     | opq _ _=>simp [qm] at hs
     | box _ _ _=>simp [qm] at hs
   ·have hnb:=hnewB i p h1
    cases p with
    | row e2 size2 es2 =>
     cases h3
     rw [(hGnew i _ h1).2]
     exact hm2.top i _ _ _ ((hpost i _).2 ⟨_,.inr h1,rfl⟩) n hn
    | box _ _ _=>cases h3
    | opq _ _=>cases h3
    | rowA _ _ _ _=>cases hnb
 exact hK G v w' (hrel.put o.dst (rnS σ res) v hd (hres.rnOut heO hb1 hb2 hc2'.1))
theorem x41 {o:Oper} {fn:Nat} {args:List Slot} {res:Slot} (σ:Nat→Nat) (L:List Ent) (nw:List (Nat×AObj)) (hF:FnG P fn args (vi L) res (we L nw))
  (hE:∀ (g:Gh) (a:Act) (w:World) (M:Blks),(∀ y,y∈o.op.operands→RepS g w M (evS f y) (a.eval y))→∃ vs:Array Value,(execOp a.eval o).run P w = .ok (.enter fn vs) w∧vs.size=args.length∧∀ (j:Nat) (s:Slot),args[j]?=some s→∃ v,vs[j]?=some v∧RepS g w M (rnS σ s) v)
  (hm:matL σ L)
  (hnd:ndB (vk L nw)=true) (hnd2:ndB ((vk L nw).map σ)=true) (hst:L.all (fun e=>qm e.2.1 e.2.2.2)=true) (hnw:nw.all (fun p=>newB p.2 && okQ (ows (we L nw)) p.2)=true) (hc1:(args.all (okS (ows (vi L))) && (vi L).all fun p=>okO (ows (vi L)) p.2)=true) (hc2:(okT (ows (we L nw)) res && (we L nw).all fun p=>okP (ows (we L nw)) p.2)=true) :
  Stp P o f ⟨false,rdOf σ L nw,wrOf σ L nw,rnS σ res⟩:=
 x43 (C:=fun _=>True) σ L nw (w0s hF _) (fun _ _=>trivial) hE hm hnd hnd2 hst hnw hc1 hc2
theorem x42 {fn:Nat} {xs:List Operand} {ts:Array TypeId} {args:List Slot} {res:Slot} (σ:Nat→Nat) (L:List Ent) (nw:List (Nat×AObj)) (hF:FnG P fn args (vi L) res (we L nw)) (ha:z4y f σ xs args) (hm:matL σ L)
  (hnd:ndB (vk L nw)=true) (hnd2:ndB ((vk L nw).map σ)=true) (hst:L.all (fun e=>qm e.2.1 e.2.2.2)=true) (hnw:nw.all (fun p=>newB p.2 && okQ (ows (we L nw)) p.2)=true) (hc1:(args.all (okS (ows (vi L))) && (vi L).all fun p=>okO (ows (vi L)) p.2)=true) (hc2:(okT (ows (we L nw)) res && (we L nw).all fun p=>okP (ows (we L nw)) p.2)=true) :
  Stp P ⟨dst,.call { callee := .value (.func fn),args:=xs.toArray,argTypes:=ts },ty,pos,af,gd⟩ f ⟨false,rdOf σ L nw,wrOf σ L nw,rnS σ res⟩:=
 x41 σ L nw hF (fun g a w M hop=>by
  obtain ⟨hlen,hargs⟩:=x1d (ev:=a.eval) (fun n=>rfl) xs args ha fun y hy=>hop y (by simp only [Op.operands,Call.operands]; simp; exact .inr hy)
  refine ⟨xs.toArray.map a.eval,z1m hF.1 _ ts a.eval rfl w,by simp [hlen],fun j s hj => ?_⟩
  obtain ⟨v,h1,h2⟩:=hargs j s hj
  exact ⟨v,by simpa using h1,h2⟩) hm hnd hnd2 hst hnw hc1 hc2
end
end Go.Proofs.YtgdijjmdfcgifaaGreat
