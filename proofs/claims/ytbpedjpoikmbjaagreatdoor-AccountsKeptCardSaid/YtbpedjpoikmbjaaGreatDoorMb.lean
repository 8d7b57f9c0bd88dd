import Derived.Test.YtbpedjpoikmbjaaGreatDoorMa
import Derived.Laws.StructEq
import Derived.Laws.Pointers
import Derived.IntWalk
namespace Go.Proofs.YtbpedjpoikmbjaaGreatDoor
open Go.RowKit
set_option linter.unusedVariables false

section
variable {P:Program} {f:Nat->Slot} {dst:Option Tmp} {ty:TypeId} {pos:String} {af:Array Edge} {gd:Option (Nat×Bool)}

def z6e (f:Nat->Slot) (size:Nat):Nat->List (Nat×Operand)->List (List V)->Prop
 | _,[],[]=>True
 | i,(j,x)::ps,ws::es=>j=i/\y56 (evS f x) ws/\ws.length=size/\z6e f size (i+1) ps es
 | _,_,_=>False
theorem x5p:∀ (ps:List (Nat×Operand)) (es:List (List V)) (i size:Nat),z6e f size i ps es->ps.length=es.length/\∀ el,el∈es->el.length=size:=by
 intro ps
 induction ps with
 | nil =>
  intro es i size h
  cases es with
  | nil=>exact⟨rfl,by simp⟩
  | cons _ _=>cases h
 | cons p ps ih =>
  obtain⟨j,x⟩:=p;intro es i size h
  cases es with
  | nil=>cases h
  | cons ws es =>
   obtain⟨_,_,h3,h4⟩:=h;obtain⟨q1,q2⟩:=ih es (i+1) size h4;refine⟨by simp [q1],λel hel=>?_⟩;rcases List.mem_cons.1 hel with rfl|h
   ·exact h3
   ·exact q2 el h
theorem x65 {g:Gh} {w:World} {M:Blks} {size:Nat} {ev:Operand->Value}:∀ (ps:List (Nat×Operand)) (es:List (List V)) (i:Nat) (cells:Array Value),z6e f size i ps es->(∀ p,p∈ps->RepS g w M (evS f p.2) (ev p.2))->(i+ps.length)*size<=cells.size ->
  ∃ cells',Instr.fill (λi=>some (i*size,size)) cells (ps.map λp=>(p.1,ev p.2))=some cells'/\cells'.size=cells.size/\(∀ q,q < i*size->cells'[q]?=cells[q]?) /\
   ∀ (k c:Nat) (el:List V) (u:V),es[k]?=some el->el[c]?=some u->∃ x,cells'[(i+k)*size+c]?=some x/\u.p w M x/\x.oneCell'=true:=by
 intro ps
 induction ps with
 | nil =>
  intro es i cells h _ _
  cases es with
  | nil=>exact⟨cells,rfl,rfl,λ_ _=>rfl,λk c el u hk=>by simp at hk⟩
  | cons _ _=>cases h
 | cons p ps ih =>
  obtain⟨j,x⟩:=p;intro es i cells h hv hsz
  cases es with
  | nil=>cases h
  | cons ws es =>
   obtain⟨rfl,h2,h3,h4⟩:=h;have hx:=x04 h2 (hv (j,x) (by simp));have hxl:(ev x).cells.size=size:=by have:=hx.1;simp at this;omega
   simp only [List.length_cons] at hsz;have hsz1:(j+1)*size<=cells.size:=Nat.le_trans (Nat.mul_le_mul_right _ (by omega)) hsz;have e1:(j+1)*size=j*size+size:=Nat.succ_mul j size;obtain⟨f1,f2⟩:=x0b (ev x).cells.toList 0 (j*size) cells (by simp;omega)
   have hfold:(ev x).cells.zipIdx.foldl (λcs (p:Value×Nat)=>cs.setIfInBounds (j*size+p.2) p.1) cells=((ev x).cells.toList.zipIdx 0).foldl (λcs (p:Value×Nat)=>cs.setIfInBounds (j*size+p.2) p.1) cells:=by
    rw [← Array.foldl_toList,Array.toList_zipIdx]
   have hjp:j+1+ps.length=j+(ps.length+1):=by omega
   obtain⟨cells',r1,r2,r3,r4⟩:=ih es (j+1) (((ev x).cells.toList.zipIdx 0).foldl (λcs (p:Value×Nat)=>cs.setIfInBounds (j*size+p.2) p.1) cells) h4 (λp hp=>hv p (List.mem_cons_of_mem _ hp)) (by rw [f1,hjp];exact hsz);refine⟨cells',?_,by rw [r2,f1],λq hq=>?_,λk c el u hk hc=>?_⟩
   ·simp only [List.map_cons,Instr.fill,hxl,ne_eq,not_true_eq_false,decide_false,Bool.false_or];rw [if_neg (by simp;omega),hfold];exact r1
   ·rw [r3 q (by omega),f2 q,if_neg (by omega)]
   ·cases k with
    | zero =>
     cases hk;have hcl:=(List.getElem?_eq_some_iff.1 hc).1;obtain⟨y,s1,s2,s3⟩:=hx.2 c u hc;refine⟨y,?_,s2,s3⟩;rw [Nat.add_zero,r3 _ (by omega),f2,if_pos (by simp;omega)];have:j*size+c-(j*size+0)=c:=by omega
     rw [this];exact s1
    | succ k =>
     have:=r4 k c el u (by simpa using hk) hc;have e2:j+(k+1)=j+1+k:=by omega
     rw [e2];exact this

theorem x0r {t e:TypeId} {size bytes:Nat} (h:Elem P t e size bytes) (w:World):P.underlying t=some (.slice e)/\∃ (i:TypeInfo) (z:Value),P.info? e=some i/\i.size=size/\i.bytes=bytes/\i.zero=some z/\z.cells.size=size/\0 < size/\(zeroValue e).run P w = .ok z w/\(sizeOf e).run P w = .ok size w:=by
 obtain⟨i,z,h1,h2,h3,h4,h5,h6,h7⟩:=h;exact⟨h1,i,z,h2,h4,h5,h3,h6,h7,by simp [zeroValue,typeInfo,h2,h3],by simp [sizeOf,typeInfo,h2,h4]⟩

theorem yt {t e:TypeId} {size bytes len:Nat} {ps:Array (Nat×Operand)} (es:List (List V)) (hE:Elem P t e size bytes) (h:z6e f size 0 ps.toList es) (hl:len=es.length) (h24b:Nat.ble (es.length*size) 16777216=true):Stp P ⟨dst,.buildSlice t len ps,ty,pos,af,gd⟩ f ⟨false,[],[],.dat (vlst es)⟩:=
 w0u λX own g a w hlt hh=>by
  subst hl;have h24:=Nat.le_of_ble_eq_true h24b;obtain⟨e1,i,z,e2,e3,e4,e5,e6,e7,e8,e9⟩:=x0r hE w;obtain⟨l1,l2⟩:=x5p ps.toList es 0 size h;obtain⟨cells,r1,r2,r3,r4⟩:=x65 (ev:=a.eval) ps.toList es 0 ((Array.range (es.length*size)).map (((if es.length*size=0 then #[] else z.cells):Array Value)[· % (if es.length*size=0 then #[] else z.cells:Array Value).size]!)) h (λp hp=>hh p.2 (by simp only [Op.operands];simp;exact⟨p.1,by simpa using hp⟩)) (by simp;rw [← l1];simp);refine⟨.slice (some ⟨w.heap.size,0,none⟩) es.length es.length,w.alloc (.cells cells e),?_,(Kp.refl [] w).alloc _,some ⟨w.heap.size,0,none⟩,es.length,rfl,Nat.le_refl _,λ_=>⟨w.heap.size,0,size,rfl,λhM=>absurd (hlt _ hM) (Nat.lt_irrefl _),cells,e,(0,0),heap_alloc_new w _,l2,λk c el u hk hc=>?_⟩⟩
  ·have hmap:(ps.map λ(i,x)=>(i,a.eval x)).toList=ps.toList.map λp=>(p.1,a.eval p.2):=by simp
   have h24':¬ es.length*size > 2 ^ 24:=by omega
   by_cases h0:es.length*size=0
   ·simp only [if_pos h0] at r1;simp only [execOp,Instr.buildSlice,Sem.run_bind,run_underlying e1,Result.andThen_ok,e9,if_neg h24',Sem.run_pure,if_pos h0,hmap,r1,newRow,run_newObj_alloc]
   ·simp only [if_neg h0] at r1;simp only [execOp,Instr.buildSlice,Sem.run_bind,run_underlying e1,Result.andThen_ok,e9,if_neg h24',Sem.run_pure,if_neg h0,e8,hmap,r1,newRow,run_newObj_alloc]
  ·obtain⟨x,s1,s2,s3⟩:=r4 k c el u hk hc;refine⟨x,by rw [Nat.zero_add] at s1 ⊢;exact s1,u.keep (M:=Mof X g own) ⟨by simp,λb hb _ _=>((Kp.refl [] w).alloc (.cells cells e)).block b hb (by simp),λb _ hb=>hb⟩ s2,s3⟩

theorem w0h (id:Nat) {t e:TypeId} {size bytes:Nat} {x y:Operand} {n m:Nat} {zs:List Value} (hE:Elem P t e size bytes) (hz:tyZ P e=some zs) (h1:zs.all (·.oneCell')=true) (hx:evS f x = .dat (vint (n:Int))) (hy:evS f y = .dat (vint (m:Int))) (hnm:n<=m) (hm:m<=1000000000) (hb:m*bytes<=281474976710656) :
  Stp P ⟨dst,.makeSlice t x y,ty,pos,af,gd⟩ f ⟨false,[(id,none)],[(id,some (some (.row e size (List.replicate n (zs.map vval)))))],.row id n⟩:=by
 refine Yr λX f' own g a w hr ho h=>?_;have h2:=ja (h x (by simp [Op.operands])) hx;have h3:=ja (h y (by simp [Op.operands])) hy;obtain⟨e1,i,z,e2,e3,e4,e5,e6,e7,e8,e9⟩:=x0r hE w;have hzs:z.cells.toList=zs:=by simpa [tyZ,e2,e5] using hz
 have hbm:((bytes:Int)*(m:Int))=((m*bytes:Nat):Int):=by rw [Nat.mul_comm];simp
 have hmk:=run_make (P:=P) w t e i z e1 e2 e5 .i64 .i64 n m (by omega) (by omega) (by rw [e4,hbm];omega) (by omega);rw [e3] at hmk;simp only [Int.toNat_natCast] at hmk;have hzl:zs.length=size:=by rw [← hzs];simpa using e6
 let v:Value:=.slice (some ⟨w.heap.size,0,none⟩) n m
 let g':Gh:=⟨g.bl,λi k=>if i=id/\k=n then some v else g.sv i k⟩
 have hsv:g'.sv id n=some v:=if_pos ⟨rfl,rfl⟩;have hlen:(List.replicate n (zs.map vval)).length=n:=by simp
 refine⟨g',w.alloc (.cells (madeCells z.cells (m*size)) e),.value v,v,⟨λ_ _ h=>h,λi k u hu=>?_⟩,λi hi=>⟨rfl,λk=>if_neg λh=>hi h.1⟩,?_,.inl rfl,.inl ((Kp.refl [] w).alloc _),λb hb=>?_,λe' s' es' he k hk=>?_,λM' he=>⟨⟨v,(madeCells z.cells (m*size)).toList.take (n*size),by rw [hlen];exact hsv,⟨?_,.inr ⟨w.heap.size,m,_,by rw [hlen],Nat.zero_le _,heap_alloc_new w _,by rw [hlen];exact hnm,by unfold maxLen;omega,by rw [size_madeCells],by rw [hlen]⟩⟩,e7,λel hel=>?_,λk c el u hk hc=>?_⟩,hsv⟩⟩
 ·show (if i=id/\k=n then some v else g.sv i k)=some u;rw [if_neg]
  ·exact hu
  ·rintro⟨rfl,rfl⟩;rw [(hr.fresh i ho).2] at hu;cases hu
 ·simp only [execOp,h2,h3,Sem.run_bind,hmk,Result.andThen_ok,Sem.run_pure];rfl
 ·simp only [obk,hlen,hsv,Option.bind_some] at hb;exact .inl (by cases hb;exact Nat.le_refl _)
 ·cases he;rw [hlen] at hk;show (if id=id/\k=n then some v else g.sv id k)=none;rw [if_neg (by omega)];exact (hr.fresh id ho).2 k
 ·rw [hlen,List.length_take,Array.length_toList,size_madeCells];have:=Nat.mul_le_mul_right size hnm;omega
 ·rw [List.eq_of_mem_replicate hel];simpa using hzl
 ·have hk':=List.eq_of_mem_replicate (List.mem_of_getElem? hk);subst hk';have hkn:k < n:=by have:=(List.getElem?_eq_some_iff.1 hk).1;simpa using this
  rw [List.getElem?_map] at hc
  cases hq:zs[c]? with
  | none=>rw [hq] at hc;cases hc
  | some x =>
   rw [hq] at hc;cases hc;have hcl:=(List.getElem?_eq_some_iff.1 hq).1;refine⟨x,?_,rfl,(List.all_eq_true.1 h1) x (List.mem_of_getElem? hq)⟩;have hlt:k*size+c < n*size:=Yx hkn (by omega);have hlt2:=Nat.lt_of_lt_of_le hlt (Nat.mul_le_mul_right size hnm);rw [List.getElem?_take,if_pos hlt];have e10:(k*size+c) % size=c:=by rw [Nat.mul_comm,Nat.mul_add_mod];exact Nat.mod_eq_of_lt (by omega)
   have e11:z.cells[c]?=some x:=by rw [← hzs] at hq;simpa using hq
   have e12:z.cells[c]! = x:=by rw [Array.getElem!_eq_getD,Array.getD_eq_getD_getElem?,e11];rfl
   simp [madeCells,hlt2,e6,e10,e12]
end

section
variable {P:Program} {X:Ctx} {Q:Exit->(Nat->Slot)->Own->Prop} {f:Nat->Slot} {own:Own} {c:Code}

theorem Zn (t id:Nat) (e:TypeId) (size:Nat) (hf:f t = .dat vnil) (ho:own id=none) (hs:Nat.blt 0 size=true) (h:AWP P X c Q (updS f (some t) (.row id 0)) (upl own [(id,some (some (.row e size [])))])):AWP P X c Q f own:=by
 intro g a w hr
 let g':Gh:=⟨g.bl,λi k=>if i=id/\k=0 then some (.slice none 0 0) else g.sv i k⟩
 have hsv:g'.sv id 0=some (.slice none 0 0):=if_pos ⟨rfl,rfl⟩
 have hle:g.le g':=⟨λ_ _ h=>h,λi k u hu=>by
  show (if i=id/\k=0 then _ else g.sv i k)=some u;rw [if_neg]
  ·exact hu
  ·rintro⟨rfl,rfl⟩;rw [(hr.fresh i ho).2] at hu
   cases hu⟩
 obtain⟨hr',he⟩:=Yb (id:=id) (ob' := .row e size []) (w':=w) hr hle (λi hi=>⟨rfl,λk=>if_neg λh=>hi h.1⟩) (.inl (Kp.refl _ _)) (λb hb=>by simp only [obk,List.length_nil,hsv,Option.bind_some] at hb;simp [Value.ownBlock] at hb) (λe' s' es' he k hk=>by
  cases he;show (if id=id/\k=0 then _ else g.sv id k)=none;rw [if_neg (by simp at hk;omega)]
  exact (hr.fresh id ho).2 k) (λM' he _=>⟨_,[],hsv,World.ownsRow_nil w 0 e size,by simpa [Nat.blt_eq] using hs,by simp,by simp⟩)
 have hfr:=hr.fr t;rw [hf] at hfr;have hv:a.tmps.getD t undef = .slice none 0 0:=hfr;refine h g' a w ⟨hr'.kp,hr'.m0,hr'.n,hr'.df,λt'=>?_,hr'.ob,hr'.sep,hr'.mine,hr'.fresh,hr'.top⟩
 by_cases ht:t'=t
 ·subst ht;have:Nat.beq t' t'=true:=by simp
  simp only [updS,this,cond_true];rw [hv];exact hsv
 ·simp only [updS,qz ht,cond_false];exact hr'.fr t'

theorem x7z (t id:Nat) {e:TypeId} {size n:Nat} {es:List (List V)} (hf:f t = .row id n) (ho:own id=some (some (.row e size es))) (hn:n=es.length) (h:AWP P X c Q (updS f (some t) (.dat (vlst es))) (upl own [(id,some none)])):AWP P X c Q f own:=by
 intro g a w hr;subst hn
 have hlive:∀ i o,upl own [(id,some none)] i=some (some o)->i≠id/\own i=some (some o):=λi o h1=>by
  by_cases hi:i=id
  ·subst hi;rw [vp] at h1;cases h1
  ·rw [ve hi] at h1;exact⟨hi,h1⟩
 have hM:∀ b,Mof X g (upl own [(id,some none)]) b->Mof X g own b:=λb hb=>by
  rcases hb with hb|⟨i,o,h1,h2⟩
  ·exact .inl hb
  ·exact .inr ⟨i,o,(hlive i o h1).2,h2⟩
 have he:Ext (Mof X g own) (Mof X g (upl own [(id,some none)])) w w:=⟨Nat.le_refl _,λ_ _ _ _=>rfl,λb _ hb=>hM b hb⟩
 refine h g a w ⟨hr.kp,hr.m0,hr.n,hr.df,λt'=>?_,λi o h1=>(hr.ob i o (hlive i o h1).2).keep he (Gh.le_refl g) (λ_ _=>rfl),λi i' o o' b h1 h2=>hr.sep i i' o o' b (hlive i o h1).2 (hlive i' o' h2).2,λi o b h1=>hr.mine i o b (hlive i o h1).2,λi h1=>?_,λi e' s' es' h1=>hr.top i e' s' es' (hlive i _ h1).2⟩
 ·by_cases ht:t'=t
  ·subst ht;have:Nat.beq t' t'=true:=by simp
   simp only [updS,this,cond_true];have hfr:=hr.fr t';rw [hf] at hfr;have hv:g.sv id es.length=some (a.tmps.getD t' undef):=hfr;obtain⟨v',xs,q1,q2,q3,q4,q5⟩:=hr.ob id _ ho;rw [hv] at q1;cases q1;rcases q2.2 with ⟨r1,r2⟩|⟨b,cap,cur,r1,_,hb,hnc,_,hcs,htk⟩
   ·have:es=[]:=List.eq_nil_of_length_eq_zero r2;subst this;exact⟨none,0,r1,Nat.le_refl _,λh=>absurd rfl h⟩
   ·have hobk:obk g id (.row e size es)=some b:=by simp only [obk];rw [hv,r1];rfl
    refine⟨_,cap,r1,hnc,λ_=>⟨b,0,size,rfl,?_,cur,e,(0,0),hb,q4,λk c el u hk hc=>?_⟩⟩
    ·rintro (hM0|⟨i,o,h1,h2⟩)
     ·have h5:=hr.m0.1 b hM0;rcases hr.mine id _ b ho hobk with h6|h6
      ·exact h5.2 h6
      ·omega
     ·obtain⟨h3,h4⟩:=hlive i o h1;exact h3 (hr.sep i id o _ b h4 ho h2 hobk)
    ·obtain⟨x,s1,s2,s3⟩:=q5 k c el u hk hc;refine⟨x,?_,u.keep he s2,s3⟩;rw [← htk,List.getElem?_take] at s1;split at s1
     ·rw [Nat.zero_add];simpa using s1
     ·cases s1
  ·simp only [updS,qz ht,cond_false];exact (hr.fr t').keep he (Gh.le_refl g)
 ·by_cases hi:i=id
  ·subst hi;rw [vp] at h1;cases h1
  ·rw [ve hi] at h1;exact hr.fresh i h1
end

/-! ### functions with a pointer to one object -/
def Imp (P:Program) (fn:Nat) (t:TypeId) (cs:List V) (args:List V) (res:V) (cs':List V):Prop:=
 uv P fn=true/\∀ (M:Blks) (w:World) (b:Nat) (l:List Value) (vs:List Value),Mlt w (λx=>M x∨x=b)->¬ M b->w.heap[b]?=some (.cells l.toArray t (0,0))->Cs w (λx=>M x∨x=b) cs l->Ts w (λx=>M x∨x=b) args vs ->
  Calls P fn (Value.pointer (some ⟨b,0,none⟩)::vs).toArray w λe w'=>∃ v l',e = .returned v/\res.p w' (λx=>M x∨x=b) v/\Kp [b] w w'/\w'.heap[b]?=some (.cells l'.toArray t (0,0))/\Cs w' (λx=>M x∨x=b) cs' l'

section
variable {P:Program} {f:Nat->Slot} {dst:Option Tmp} {ty:TypeId} {pos:String} {af:Array Edge} {gd:Option (Nat×Bool)}
theorem yn {fn:Nat} {p:Operand} {xs:List Operand} {ts:Array TypeId} {id:Nat} {an:Option Nat} {t:TypeId} {cs us cs':List V} {res:V} {css:List Slot} (hF:Imp P fn t cs us res cs') (hp:evS f p = .ptr id 0) (ha:z39 f xs us) (hcs:css=cs.map .dat) :
  Stp P ⟨dst,.call { callee:=.value (.func fn),args:=(p::xs).toArray,argTypes:=ts },ty,pos,af,gd⟩ f ⟨false,[(id,some (some (.box an t css)))],[(id,some (some (.box an t (cs'.map .dat))))],.dat res⟩:=by
 subst hcs;intro X f' own g a w Q hr hd hx hrd K hK;have ho:own id=some (some (.box an t (cs.map .dat))):=hrd (id,_) (by simp)
 have hop:∀ y,y∈p::xs->RepS g w (Mof X g own) (evS f y) (a.eval y):=λy hy=>by
  have:=hx y (by simp only [Op.operands,Call.operands];simp at hy ⊢;exact .inr hy);rw [← this];exact hr.ev y
 have h1:=hop p (by simp);rw [hp] at h1;obtain⟨b,h2,h3⟩:=h1;obtain⟨b',l,q1,q0,q2,q3,q4⟩:=hr.ob id _ ho;rw [h2] at q1;cases q1
 have hMeq:(λx=>(Mof X g own x/\x≠b)∨x=b)=Mof X g own:=by
  funext x;apply propext;constructor
  ·rintro (h|rfl)
   ·exact h.1
   ·exact .inr ⟨id,_,ho,h2⟩
  ·intro h
   by_cases hxb:x=b
   ·exact .inr hxb
   ·exact .inl ⟨h,hxb⟩
 unfold Oper.wp;rw [z4u hF.1 _ ts a.eval rfl w];show Calls P fn ((p::xs).toArray.map a.eval) w _;have harg:(p::xs).toArray.map a.eval=(Value.pointer (some ⟨b,0,none⟩)::xs.map a.eval).toArray:=by simp [h3]
 rw [harg]
 have hcall:=hF.2 (λx=>Mof X g own x/\x≠b) w b l (xs.map a.eval) (by rw [hMeq];exact hr.mlt) (λh=>h.2 rfl) q2 (by
  rw [hMeq];refine⟨by simpa using q3,λj u hj=>?_⟩;obtain⟨x,r1,r2,r3⟩:=q4 j (.dat u) (by simp [hj])
  exact⟨x,r1,r2,r3⟩) (by rw [hMeq];exact y1r xs us ha (λy hy=>hop y (List.mem_cons_of_mem _ hy)))
 refine hcall.mono ?_;rintro e w' ⟨v,l',rfl,r1,r2,r3,r4⟩;rw [hMeq] at r1 r4;have hb:=(hr.ob id _ ho).blk_lt h2
 have hout:∀ M':Blks,Ext (Mof X g own) M' w w'->(∀ b'',w.heap.size<=b''->M' b''->b''=b)->Ext (Mof X g own) M' w' w':=λM' he hM=>⟨Nat.le_refl _,λ_ _ _ _=>rfl,λb'' hb'' hm=>by
  rcases Nat.lt_or_ge b'' w.heap.size with hlt|hge
  ·exact he.sub b'' hlt hm
  ·have:=hM b'' hge hm;omega⟩
 obtain⟨hr',he⟩:=Yb (id:=id) (ob' := .box an t (cs'.map .dat)) hr (Gh.le_refl g) (λi _=>⟨rfl,λ_=>rfl⟩) (.inr ⟨_,b,ho,h2,r2⟩) (λb' hb'=>.inr ⟨_,ho,hb'⟩) (λe size es h=>by cases h) (λM' he hM=>⟨b,l',h2,q0,r3,by simpa using r4.1,λj s hs=>by
  rw [List.getElem?_map] at hs
  cases hq:cs'[j]? with
  | none=>rw [hq] at hs;cases hs
  | some u =>
   rw [hq] at hs;cases hs;obtain⟨x,s1,s2,s3⟩:=r4.2 j u hq
   exact⟨x,s1,u.keep (hout M' he λb'' h5 h6=>by have:=hM b'' h5 h6;simp only [obk,h2] at this;cases this;rfl) s2,s3⟩⟩)
 refine hK g v w' (hr'.put _ (.dat res) v hd (res.keep (hout _ he λb'' h5 h6=>?_) r1));have:=hr'.mlt.1 b'' h6;rcases h6 with h6|⟨i,o,h7,h8⟩
 ·have h9:=(hr.m0.1 b'' h6).1;have:=hr.kp.size;omega
 ·by_cases hi:i=id
  ·subst hi;rw [vp] at h7;cases h7;simp only [obk,h2] at h8;cases h8;rfl
  ·rw [ve hi] at h7;have:=(hr.ob i o h7).blk_lt h8;omega
end

theorem w63 {N:Nat} {t:TypeId} {cs args:List V} {M:Blks} {w:World} {b:Nat} {l vs:List Value} (hn:args.length < N) (hM:Mlt w (λx=>M x∨x=b)) (hMb:¬ M b) (hbl:w.heap[b]?=some (.cells l.toArray t (0,0))) (hcs:Cs w (λx=>M x∨x=b) cs l) (hvs:Ts w (λx=>M x∨x=b) args vs) :
  ∃ g0,Rel ⟨M,w,[b],N,none,[]⟩ (λs=>(Slot.ptr 0 0::args.map Slot.dat).getD s .any) (ows [(0,.box (some b) t (cs.map .dat))]) g0 { tmps:=(Value.pointer (some ⟨b,0,none⟩)::vs).toArray++Array.replicate (N-(Value.pointer (some ⟨b,0,none⟩)::vs).toArray.size) undef,defers:=[] } w:=by
 have hvl:vs.length=args.length:=hvs.1
 let ob:AObj:=.box (some b) t (cs.map .dat)
 let g0:Gh:=⟨λid=>if id=0 then some b else none,λ_ _=>none⟩
 have hg0:g0.bl 0=some b:=rfl
 have hows:∀ id o,ows [(0,ob)] id=some (some o)->id=0/\o=ob:=λid o ho=>by
  by_cases hi:id=0
  ·subst hi;have:ows [(0,ob)] 0=some (some ob):=rfl;rw [this] at ho;cases ho;exact⟨rfl,rfl⟩
  ·simp only [ows,List.map_cons,upl,qz hi,cond_false,List.map_nil] at ho;cases ho
 have hMof:∀ x,Mof ⟨M,w,[b],N,none,[]⟩ g0 (ows [(0,ob)]) x↔(M x∨x=b):=λx=>by
  constructor
  ·rintro (h|⟨id,o,h1,h2⟩)
   ·exact .inl h
   ·obtain⟨rfl,rfl⟩:=hows id o h1;have h3:g0.bl 0=some x:=h2;rw [hg0] at h3;cases h3;exact .inr rfl
  ·rintro (h|rfl)
   ·exact .inl h
   ·exact .inr ⟨0,ob,rfl,hg0⟩
 have hE:Ext (λx=>M x∨x=b) (Mof ⟨M,w,[b],N,none,[]⟩ g0 (ows [(0,ob)])) w w:=⟨Nat.le_refl _,λ_ _ _ _=>rfl,λx _ hx=>(hMof x).1 hx⟩
 refine⟨g0,?_⟩;refine⟨Kp.refl _ _,⟨λb' hb'=>⟨hM.1 b' (.inl hb'),λhm=>?_⟩,hM.2.1,λq hq=>⟨λh=>hM.2.2 q hq (.inl h),λh=>hM.2.2 q hq (.inr (by simpa using h))⟩⟩,?_,rfl,λs=>?_,λid o ho=>?_,λid id' o o' b' h1 h2 h3 h4=>?_,λid o b' h1 h2=>?_,λid h1=>?_,λid e size es h1=>?_⟩
 ·have:b'=b:=by simpa using hm
  subst this;exact hMb hb'
 ·simp;omega
 ·cases s with
  | zero =>
   refine⟨b,hg0,?_⟩;rw [Array.getD_eq_getD_getElem?,Array.getElem?_append_left (by simp)];simp
  | succ s =>
   cases hs:args[s]? with
   | none =>
    have:(Slot.ptr 0 0::args.map Slot.dat).getD (s+1) .any = .any:=by rw [List.getD_eq_getElem?_getD,List.getElem?_cons_succ,List.getElem?_map,hs];rfl
    rw [this];trivial
   | some u =>
    have e1:(Slot.ptr 0 0::args.map Slot.dat).getD (s+1) .any = .dat u:=by rw [List.getD_eq_getElem?_getD,List.getElem?_cons_succ,List.getElem?_map,hs];rfl
    rw [e1];obtain⟨x,hx,hp⟩:=hvs.2 s u hs;have hlt:s < vs.length:=(List.getElem?_eq_some_iff.1 hx).1;show u.p w _ _;rw [Array.getD_eq_getD_getElem?,Array.getElem?_append_left (by simp;omega),List.getElem?_toArray,List.getElem?_cons_succ,hx];exact u.keep hE hp
 ·obtain⟨rfl,rfl⟩:=hows id o ho;refine⟨b,l,hg0,(λq hq=>by cases hq;rfl),hbl,by simpa using hcs.1,λj s hs=>?_⟩;rw [List.getElem?_map] at hs
  cases hq:cs[j]? with
  | none=>rw [hq] at hs;cases hs
  | some u =>
   rw [hq] at hs;cases hs;obtain⟨x,s1,s2,s3⟩:=hcs.2 j u hq;exact⟨x,s1,u.keep hE s2,s3⟩
 ·rw [(hows id o h1).1,(hows id' o' h2).1]
 ·obtain⟨rfl,rfl⟩:=hows id o h1;have h3:g0.bl 0=some b':=h2;rw [hg0] at h3;cases h3;exact .inl (by simp)
 ·have hi:id≠0:=by rintro rfl;cases h1
  exact⟨if_neg hi,λ_=>rfl⟩
 ·obtain⟨_,h2⟩:=hows id _ h1;have h3:AObj.row e size es = .box (some b) t (cs.map .dat):=h2;cases h3
theorem kq {P:Program} {fn:Nat} {fc:Func} {c:Code} {t:TypeId} {cs args us cs':List V} {N:Nat} {rs:List ResultVar} (hok:uv P fn=true) (hf:P.funcs[fn]?=some fc) (hb:fc.body=some c) (hnt:fc.ntmps=N) (hrs:fc.results.toList=rs) (hn:Nat.blt args.length N=true)
  (h:∀ (X:Ctx) (b:Nat),X.N=N->AWP P X c (λe f own=>(match e with|.ret=>True|.normal=>True|_=>False)/\Yl P f own rs us/\own 0=some (some (.box (some b) t (cs'.map .dat)))) (λs=>(Slot.ptr 0 0::args.map Slot.dat).getD s .any) (ows [(0,.box (some b) t (cs.map .dat))])) :
  Imp P fn t cs args (yb us) cs':=by
 refine⟨hok,λM w b l vs hM hMb hbl hcs hvs=>?_⟩;subst hnt hrs;have hn:args.length < fc.ntmps:=by simpa [Nat.blt_eq] using hn
 obtain⟨g0,hrel⟩:=w63 hn hM hMb hbl hcs hvs;refine calls_of_wp hf hb (wp_mono (wpIn_wide.1 (h ⟨M,w,[b],fc.ntmps,none,[]⟩ b rfl g0 _ w hrel)) ?_)
 ·rintro e a' w' ⟨f',own',g',hr,he,hres,hown⟩;obtain⟨b',l',o1,o0,o2,o3,o4⟩:=hr.ob 0 _ hown;have hbb:b=b':=o0 b rfl;subst hbb
  have hsub:∀ x,(M x∨x=b)->Mof ⟨M,w,[b],fc.ntmps,none,[]⟩ g' own' x:=λx hx=>by
   rcases hx with hx|rfl
   ·exact .inl hx
   ·exact .inr ⟨0,_,hown,o1⟩
  have hE':Ext (Mof ⟨M,w,[b],fc.ntmps,none,[]⟩ g' own') (λx=>M x∨x=b) w' w':=⟨Nat.le_refl _,λ_ _ _ _=>rfl,λx _ hx=>hsub x hx⟩
  obtain⟨v,hv1,hv2⟩:=y7w (P:=P) hr (λx=>M x∨x=b) hE' (λid e size es b' h1 h2 hm=>by
   rcases hm with hm|rfl
   ·have h5:=hr.m0.1 b' hm;rcases hr.mine id _ b' h1 h2 with h6|h6
    ·exact h5.2 h6
    ·have:=h5.1;omega
   ·have h7:=hr.sep id 0 _ _ b' h1 hown h2 o1;subst h7;rw [hown] at h1
    cases h1) fc us hres
  have hfin:a'.defers=[]/\∃ v,(results fc a'.tmps).run P w' = .ok v w'/\∃ v_1 l',Ending.returned v = .returned v_1/\(yb us).p w' (λx=>M x∨x=b) v_1/\Kp [b] w w'/\w'.heap[b]?=some (.cells l'.toArray t (0,0))/\Cs w' (λx=>M x∨x=b) cs' l':=by
   refine⟨hr.df,v,hv1,v,l',rfl,hv2,hr.kp,o2,by simpa using o3,λj u hj=>?_⟩;obtain⟨x,s1,s2,s3⟩:=o4 j (.dat u) (by simp [hj]);exact⟨x,s1,u.keep hE' s2,s3⟩
  cases e with
  | normal=>exact hfin
  | ret=>exact hfin
  | exit _=>exact he.elim
  | goto _=>exact he.elim
  | panic _=>exact he.elim
  | outgrown=>exact he.elim
end Go.Proofs.YtbpedjpoikmbjaaGreatDoor
namespace Go.Proofs.YtbpedjpoikmbjaaGreatDoor
open Go.RowKit
set_option linter.unusedVariables false

section
variable {P:Program} {f:Nat->Slot} {dst:Option Tmp} {ty:TypeId} {pos:String} {af:Array Edge} {gd:Option (Nat×Bool)}

theorem jh {x:Operand} {id off:Nat} (hx:evS f x = .ptr id off):Stp P ⟨dst,.nilCheck x,ty,pos,af,gd⟩ f ⟨false,[],[],.ptr id off⟩:=
 vt λX own g a w h=>by
  have h1:=h x (by simp [Op.operands]);rw [hx] at h1;obtain⟨b,h2,h3⟩:=h1;exact⟨_,by simp [execOp,h3],b,h2,rfl⟩
theorem z4r {x:Operand} {es:List (List V)} {k c:Nat} (hx:evS f x = .dat (qn es k c)):Stp P ⟨dst,.nilCheck x,ty,pos,af,gd⟩ f ⟨false,[],[],.dat (qn es k c)⟩:=
 vt λX own g a w h=>by
  have h1:=h x (by simp [Op.operands]);rw [hx] at h1;obtain⟨b,off,size,h2,h3⟩:=h1;exact⟨_,by simp [execOp,h2],b,off,size,rfl,h3⟩
theorem y6n {t t':TypeId} {x y:Operand} {m n:Int} (hx:evS f x = .dat (vint m)) (hy:evS f y = .dat (vint n)) (h1:n≠0) :
  Stp P ⟨dst,.binOp .rem t x y t',ty,pos,af,gd⟩ f ⟨false,[],[],.dat (vint (m.tmod n))⟩:=
 un hx hy λw=>by simp [eqGuard,binOp,Op.intDiv,h1]
theorem z0s {t t':TypeId} {x y:Operand} {k k':IntKind} {m n:Int} (hx:evS f x = .dat (vval (.int k m))) (hy:evS f y = .dat (vval (.int k' n))) (h0:0<=n) :
  Stp P ⟨dst,.binOp .shr t x y t',ty,pos,af,gd⟩ f ⟨false,[],[],.dat (vval (.int k (m.fdiv (2 ^ (min n.toNat k.bits)))))⟩:=
 un hx hy λw=>by simp [eqGuard,binOp,Op.shift,Int.not_lt.2 h0]
theorem Zd {s d:TypeId} {x:Operand} {k k':IntKind} {n:Int} {ds:TypeDesc} (hs:P.underlying s=some ds) (hd:P.underlying d=some (.int k)) (hx:evS f x = .dat (vval (.int k' n))):Stp P ⟨dst,.convert s d x,ty,pos,af,gd⟩ f ⟨false,[],[],.dat (vval (.int k (k.wrap n)))⟩:=
 vt λX own g a w h=>by
  have h1:=ja (h x (by simp [Op.operands])) hx;exact⟨_,by simp [execOp,h1,convert,run_underlying hs,run_underlying hd,Conv.intToInt],rfl⟩
theorem w0t {t e:TypeId} {n:Nat} {x ix:Operand} {es:List (List V)} {m:Int} (h:tyE P t=some (e,n)) (hx:evS f x = .dat (vlst es)) (hi:evS f ix = .dat (vint m)) (hk:0<=m/\m < (es.length:Int)) (hn:∀ el,el∈es->el.length=n) :
  Stp P ⟨dst,.indexAddr t x ix,ty,pos,af,gd⟩ f ⟨false,[],[],.dat (qn es m.toNat 0)⟩:=
 y2i h hx (by rw [hi,Int.toNat_of_nonneg hk.1]) (by omega) hn
theorem x3q {t e e':TypeId} {n n':Nat} {x ix:Operand} {id:Nat} {m:Int} {es:List (List V)} (h:tyE P t=some (e,n')) (hx:evS f x = .row id n) (hi:evS f ix = .dat (vint m)) (hn:n=es.length) (hk:0<=m/\m < (es.length:Int)) :
  Stp P ⟨dst,.indexAddr t x ix,ty,pos,af,gd⟩ f ⟨false,[(id,some (some (.row e' n' es)))],[],.rptr id n n' m.toNat 0⟩:=
 w0s h hx (by rw [hi,Int.toNat_of_nonneg hk.1]) hn (by omega)
end


section
variable {P:Program} {f:Nat->Slot} {dst:Option Tmp} {ty:TypeId} {pos:String} {af:Array Edge} {gd:Option (Nat×Bool)}
end
end Go.Proofs.YtbpedjpoikmbjaaGreatDoor
namespace Go.Proofs.YtbpedjpoikmbjaaGreatDoor
open Go.RowKit
set_option linter.unusedVariables false

def vfn (fn:Nat) (us:List V):V:=
 ⟨λw M v=>∃ l:List Value,v = .func (.func fn) #[] l.toArray/\Ts w M us l,true,λe ⟨l,h1,h2⟩=>⟨l,h1,h2.keep e⟩,λ_ _ _ v ⟨l,h1,_⟩=>by rw [h1];rfl⟩

def datS (f:Nat->Slot):List Operand->List V->Prop
 | [],[]=>True
 | x::xs,u::us=>evS f x = .dat u/\datS f xs us
 | _,_=>False
theorem w8g {f:Nat->Slot}:∀ (xs:List Operand) (us:List V),datS f xs us->z39 f xs us:=by
 intro xs
 induction xs with
 | nil=>intro us h;cases us with
  | nil=>trivial
  | cons _ _=>cases h
 | cons x xs ih=>intro us h;cases us with
  | nil=>cases h
  | cons u us=>exact⟨.inl h.1,ih us h.2⟩

section
variable {P:Program} {f:Nat->Slot} {dst:Option Tmp} {ty:TypeId} {pos:String} {af:Array Edge} {gd:Option (Nat×Bool)}
theorem Zy {fn:Nat} {xs:Array Operand} {us:List V} (h:datS f xs.toList us):Stp P ⟨dst,.makeFunc (.func fn) #[] xs,ty,pos,af,gd⟩ f ⟨false,[],[],.dat (vfn fn us)⟩:=
 vt λX own g a w hh=>by
  refine⟨.func (.func fn) #[] (xs.map a.eval),?_,xs.toList.map a.eval,by rw [← Array.toList_map],y1r xs.toList us (w8g _ _ h) (λx hx=>hh x (by simp only [Op.operands];simpa using hx))⟩;simp [execOp,Instr.makeFunc]
theorem x4d {fn : Nat} (hc : uv P fn = true) (fx : Operand) (xs : Array Operand) (ts : Array TypeId) (cap : Array Value) (ev : Operand → Value) (hev : ev fx = .func (.func fn) #[] cap) (w : World) :
    (execOp ev ⟨dst,.call { callee:=.value fx,args:=xs,argTypes:=ts },ty,pos,af,gd⟩).run P w = .ok (.enter fn (xs.map ev ++ cap)) w:=by
  unfold uv at hc
  cases hf : P.funcs[fn]? with
  | none=>rw [hf] at hc;cases hc
  | some fc =>
    rw [hf] at hc;simp only [Bool.and_eq_true,Bool.not_eq_true'] at hc
    have h1 : ¬ fc.name = "runtime.NumGoroutine" := by simpa using hc.1
    have h2 : ¬ fc.body = none:=by
      intro hb;rw [hb] at hc;cases hc.2
    simp [execOp,resolve,hev,Deferred.ofValue,invoke,callFunc,hf,h1,h2]

theorem w97 {w:World} {M:Blks} {us us':List V} {l l':List Value} (h:Ts w M us l) (h':Ts w M us' l'):Ts w M (us++us') (l++l'):=by
 refine⟨by simp [h.1,h'.1],λj u hj=>?_⟩;rcases Nat.lt_or_ge j us.length with hl|hl
 ·rw [List.getElem?_append_left hl] at hj;obtain⟨x,q1,q2⟩:=h.2 j u hj;exact⟨x,by rw [List.getElem?_append_left (by rw [h.1];exact hl)];exact q1,q2⟩
 ·rw [List.getElem?_append_right hl] at hj;obtain⟨x,q1,q2⟩:=h'.2 _ u hj;exact⟨x,by rw [List.getElem?_append_right (by rw [h.1];exact hl),h.1];exact q1,q2⟩

theorem xo {t:Tmp} {fn:Nat} {xs:Array Operand} {ts:Array TypeId} {us cs:List V} {res:V} (hF:Fn P fn (us++cs) res) (hf:evS f (.tmp t) = .dat (vfn fn cs)) (ha:z39 f xs.toList us):Stp P ⟨dst,.call { callee:=.value (.tmp t),args:=xs,argTypes:=ts },ty,pos,af,gd⟩ f ⟨false,[],[],.dat res⟩:=by
 intro X f' own g a w Q hr hd hx hrd K hK
 have hop:∀ y,y∈Operand.tmp t::xs.toList->RepS g w (Mof X g own) (evS f y) (a.eval y):=λy hy=>by
  have:=hx y (by simp only [Op.operands,Call.operands];simp at hy ⊢;exact hy);rw [← this];exact hr.ev y
 have h1:=hop (.tmp t) (by simp);rw [hf] at h1;obtain⟨l,h2,h3⟩:=h1;unfold Oper.wp;rw [x4d hF.1 (.tmp t) xs ts l.toArray a.eval h2 w];show Calls P fn (xs.map a.eval++l.toArray) w _
 have hT:Ts w (Mof X g own) (us++cs) (xs.map a.eval++l.toArray).toList:=by
  rw [Array.toList_append,Array.toList_map];exact w97 (y1r xs.toList us ha (λx hm=>hop x (List.mem_cons_of_mem _ hm))) h3
 refine (hF.2 _ w _ hr.mlt hT).mono ?_;rintro e w' ⟨v,rfl,h1,h2⟩;exact hK g v w' ((hr.grow h2).put _ (.dat res) v hd h1)
end

def frzS (id:Nat) (us:List V):Slot->Slot
 | .ptr i off=>cond (Nat.beq i id) (.dat (qn [us] 0 off)) (.ptr i off)
 | s=>s
theorem Yk {P:Program} {X:Ctx} {Q:Exit->(Nat->Slot)->Own->Prop} {f:Nat->Slot} {own:Own} {c:Code} (id:Nat) (us:List V) {an:Option Nat} {t:TypeId} {cs:List Slot} (ho:own id=some (some (.box an t cs))) (hcs:cs=us.map .dat)
  (h:AWP P X c Q (λs=>frzS id us (f s)) (upl own [(id,some none)])):AWP P X c Q f own:=by
 intro g a w hr;subst hcs
 have hlive:∀ i o,upl own [(id,some none)] i=some (some o)->i≠id/\own i=some (some o):=λi o h1=>by
  by_cases hi:i=id
  ·subst hi;rw [vp] at h1;cases h1
  ·rw [ve hi] at h1;exact⟨hi,h1⟩
 have hM:∀ b,Mof X g (upl own [(id,some none)]) b->Mof X g own b:=λb hb=>by
  rcases hb with hb|⟨i,o,h1,h2⟩
  ·exact .inl hb
  ·exact .inr ⟨i,o,(hlive i o h1).2,h2⟩
 have he:Ext (Mof X g own) (Mof X g (upl own [(id,some none)])) w w:=⟨Nat.le_refl _,λ_ _ _ _=>rfl,λb _ hb=>hM b hb⟩
 refine h g a w ⟨hr.kp,hr.m0,hr.n,hr.df,λt'=>?_,λi o h1=>(hr.ob i o (hlive i o h1).2).keep he (Gh.le_refl g) (λ_ _=>rfl),λi i' o o' b h1 h2=>hr.sep i i' o o' b (hlive i o h1).2 (hlive i' o' h2).2,λi o b h1=>hr.mine i o b (hlive i o h1).2,λi h1=>?_,λi e' s' es' h1=>hr.top i e' s' es' (hlive i _ h1).2⟩
 ·have hfr:=hr.fr t'
  cases hs:f t' with
  | ptr i off =>
   by_cases hi:i=id
   ·subst hi;have:Nat.beq i i=true:=by simp
    simp only [frzS,this,cond_true];rw [hs] at hfr;obtain⟨b,q1,q2⟩:=hfr;obtain⟨b',l,r1,_,r2,r3,r4⟩:=hr.ob i _ ho;rw [q1] at r1;cases r1;refine⟨b,0,us.length,by rw [q2];simp,?_,l.toArray,t,(0,0),r2,by simp,λk c' el u hk hc=>?_⟩
    ·rintro (hM0|⟨i',o,h1,h2⟩)
     ·have h5:=hr.m0.1 b hM0;rcases hr.mine i _ b ho q1 with h6|h6
      ·exact h5.2 h6
      ·omega
     ·obtain⟨h3,h4⟩:=hlive i' o h1;exact h3 (hr.sep i' i o _ b h4 ho h2 q1)
    ·cases k with
     | zero =>
      cases hk;obtain⟨x,s1,s2,s3⟩:=r4 c' (.dat u) (by simp [hc]);exact⟨x,by simpa using s1,u.keep he s2,s3⟩
     | succ k=>cases hk
   ·simp only [frzS,qz hi,cond_false];rw [hs] at hfr;exact RepS.keep he (Gh.le_refl g) hfr
  | any=>trivial
  | dat u=>rw [hs] at hfr;exact RepS.keep he (Gh.le_refl g) hfr
  | row i n=>rw [hs] at hfr;exact RepS.keep he (Gh.le_refl g) hfr
  | rptr i n size k c=>rw [hs] at hfr;exact RepS.keep he (Gh.le_refl g) hfr
  | mp i=>rw [hs] at hfr;exact RepS.keep he (Gh.le_refl g) hfr
  | rsub i n size k=>rw [hs] at hfr;exact RepS.keep he (Gh.le_refl g) hfr
  | nptr i=>rw [hs] at hfr;exact RepS.keep he (Gh.le_refl g) hfr
  | dr i u=>rw [hs] at hfr;exact RepS.keep he (Gh.le_refl g) hfr
  | comp tup cs=>rw [hs] at hfr;exact RepS.keep he (Gh.le_refl g) hfr
 ·by_cases hi:i=id
  ·subst hi;rw [vp] at h1;cases h1
  ·rw [ve hi] at h1;exact hr.fresh i h1

theorem x0e {P:Program} {fn:Nat} {args:List V} {res:V} (hok:uv P fn=true) (h:∀ (M:Blks) (w:World) (vs:List Value),Ts w M args vs->Calls P fn vs.toArray w λe w'=>∃ v,e = .returned v/\res.p w' M v/\Kp [] w w'):Fn P fn args res:=
 ⟨hok,λM w vs _ hvs=>by have:=h M w vs.toList hvs;simpa using this⟩
theorem y5z {w:World} {M:Blks}:∀ {us:List Value} {l:List Value},Ts w M (us.map vval) l->l=us:=by
 intro us
 induction us with
 | nil=>intro l h;exact List.eq_nil_of_length_eq_zero h.1
 | cons u us ih =>
  intro l h
  cases l with
  | nil=>have:=h.1;simp at this
  | cons x l =>
   obtain⟨y,h1,h2⟩:=h.2 0 (vval u) rfl;cases h1;have h3:x=u:=h2;subst h3;rw [ih ⟨by have:=h.1;simpa using this,λj u' hj=>h.2 (j+1) u' hj⟩]

/-! ### ways that meet behind a region -/
def dstL:List Oper->List Nat
 | []=>[]
 | o::os=>match o.dst with
  | some d=>d::dstL os
  | none=>dstL os
theorem w1l {P:Program} {ops:Array Oper}:∀ (os:List Oper) (f:Nat->Slot) (own:Own) (lg:List (List Nat×List Nat)) (K K':(Nat->Slot)->Own->List (List Nat×List Nat)->Prop),(∀ f' own' lg',K f' own' lg'->K' f' own' lg')->seqA P ops os f own lg K->seqA P ops os f own lg K':=by
 intro os
 induction os with
 | nil=>intro f own lg K K' hk h;exact hk _ _ _ h
 | cons o os ih=>intro f own lg K K' hk h;obtain⟨T,h1,h2⟩:=h;exact⟨T,h1,ih _ _ _ K K' hk h2⟩
theorem v0d {P:Program} {ops:Array Oper}:∀ (os:List Oper) (f:Nat->Slot) (own:Own) (lg:List (List Nat×List Nat)) (K:(Nat->Slot)->Own->List (List Nat×List Nat)->Prop),seqA P ops os f own lg K ->
  seqA P ops os f own lg λf' own' lg'=>(∀ t,t ∉ dstL os->f' t=f t)/\K f' own' lg':=by
 intro os
 induction os with
 | nil=>intro f own lg K h;exact⟨λ_ _=>rfl,h⟩
 | cons o os ih =>
  intro f own lg K h;obtain⟨T,h1,h2⟩:=h;refine⟨T,h1,?_⟩;have h3:=ih _ _ _ _ h2;refine w1l os _ _ _ _ _ (λf' own' lg' ⟨q1,q2⟩=>⟨λt ht=>?_,q2⟩) h3
  cases hd:o.dst with
  | none =>
   simp only [dstL,hd] at ht;rw [q1 t ht,hd];rfl
  | some d =>
   simp only [dstL,hd,List.mem_cons,not_or] at ht;rw [q1 t ht.2,hd];simp only [updS,qz ht.1,cond_false]
end Go.Proofs.YtbpedjpoikmbjaaGreatDoor
namespace Go.Proofs.YtbpedjpoikmbjaaGreatDoor
open Go.RowKit
set_option linter.unusedVariables false

def x1x (w:World) (M:Blks) (base:Nat) (e:TypeId) (size:Nat) (v:Value) (es:List (List V)):Prop:=
 ∃ xs,w.ownsRow 0 e size v es.length xs/\(∀ g,v.ownBlock=some g->base<=g)/\0 < size/\(∀ el,el∈es->el.length=size) /\
  ∀ (k c:Nat) (el:List V) (u:V),es[k]?=some el->el[c]?=some u->∃ x,xs[k*size+c]?=some x/\u.p w M x/\x.oneCell'=true

section
variable {P:Program} {ops:Array Oper} {os:List Oper} {own:Own} {lg:List (List Nat×List Nat)} {K:(Nat->Slot)->Own->List (List Nat×List Nat)->Prop} {s:Slot} {op:Op}
variable {f:Nat->Slot} {dst:Option Tmp} {ty:TypeId} {pos:String} {af:Array Edge} {gd:Option (Nat×Bool)}
theorem xb {x:Operand} {id n size k c:Nat} (hx:evS f x = .rptr id n size k c):Stp P ⟨dst,.nilCheck x,ty,pos,af,gd⟩ f ⟨false,[],[],.rptr id n size k c⟩:=
 vt λX own g a w h=>by
  have h1:=h x (by simp [Op.operands]);rw [hx] at h1;obtain⟨b,cap,h2,h3⟩:=h1;exact⟨_,by simp [execOp,h3],b,cap,h2,rfl⟩
theorem y8i {own:Own} {id id2:Nat} {q r:Option (Option AObj)} (hq:own id=q) (hr:own id2=r):∀ p,p∈[(id,q),(id2,r)]->own p.1=p.2:=by
 intro p hp;simp only [List.mem_cons,List.not_mem_nil,or_false] at hp;rcases hp with rfl|rfl
 ·exact hq
 ·exact hr
theorem y7r {id id2:Nat} {q q' r r':Option (Option AObj)} (hst:Stp P ⟨dst,op,ty,pos,af,none⟩ f ⟨false,[(id,q),(id2,r)],[(id2,r'),(id,q')],s⟩) (hq:own id=q) (hr:own id2=r)
  (h:seqA P ops os (updS f dst s) (upl own [(id2,r'),(id,q')]) (([id,id2],[id2,id])::lg) K):seqA P ops (⟨dst,op,ty,pos,af,none⟩::os) f own lg K:=
 ⟨_,⟨rfl,λ_=>⟨hst,y8i hq hr⟩,λh=>(by cases h),λk hk=>(by simp [keys] at hk ⊢;omega)⟩,h⟩

end

end Go.Proofs.YtbpedjpoikmbjaaGreatDoor
namespace Go.Proofs.YtbpedjpoikmbjaaGreatDoor
open Go.RowKit
set_option linter.unusedVariables false

section
variable {P:Program} {f:Nat->Slot} {dst:Option Tmp} {ty:TypeId} {pos:String} {af:Array Edge} {gd:Option (Nat×Bool)}

theorem w0f (id:Nat) {o:Oper} {ob:Obj} {R:Obj->Prop} (hR:R ob) (h:∀ (ev:Operand->Value) (w:World),(execOp ev o).run P w = .ok (.value (.map (some w.heap.size))) (w.alloc ob)) :
  Stp P o f ⟨false,[(id,none)],[(id,some (some (.opq none R)))],.mp id⟩:=by
 refine Yr λX f' own g a w hr ho hh=>?_
 let g':Gh:=⟨λi=>if i=id then some w.heap.size else g.bl i,g.sv⟩
 have hbl:g'.bl id=some w.heap.size:=if_pos rfl;refine⟨g',w.alloc ob,.value (.map (some w.heap.size)),.map (some w.heap.size),⟨λi b hb=>?_,λ_ _ _ h=>h⟩,λi hi=>⟨if_neg hi,λ_=>rfl⟩,h a.eval w,.inl rfl,.inl ((Kp.refl [] w).alloc _),λb hb=>?_,λe size es h=>(by cases h),λM' he=>⟨⟨w.heap.size,ob,hbl,λq hq=>(by cases hq),heap_alloc_new w _,hR⟩,w.heap.size,hbl,rfl⟩⟩
 ·show (if i=id then _ else _)=_;rw [if_neg]
  ·exact hb
  ·rintro rfl;rw [(hr.fresh i ho).1] at hb;cases hb
 ·simp only [obk,hbl] at hb;cases hb;exact .inl (Nat.le_refl _)
theorem z2a {l:List UInt8} (h:l.length<=1000000000):(ByteArray.mk l.toArray).size<=maxLen:=by
 have:(ByteArray.mk l.toArray).size=l.length:=by simp [ByteArray.size]
 rw [this];unfold maxLen;omega
theorem w0e {an : Option Nat} {o : Oper} {id : Nat} {R R' : Obj → Prop} (h : ∀ (X : Ctx) (own : Own) (g : Gh) (a : Act) (w : World) (b : Nat) (ob : Obj), (∀ x, x ∈ o.op.operands → RepS g w (Mof X g own) (evS f x) (a.eval x)) → g.bl id = some b → w.heap[b]? = some ob → R ob →
      ∃ w' ob',(execOp a.eval o).run P w = .ok .skip w' /\ Kp [b] w w' /\ w'.heap[b]? = some ob' /\ R' ob') :
    Stp P o f ⟨false,[(id,some (some (.opq an R)))],[(id,some (some (.opq an R')))],.any⟩ := by
  refine Yr λX f' own g a w hr ho hh=>?_;obtain⟨b,ob,q1,q0,q2,q3⟩ := hr.ob id _ ho;obtain⟨w',ob',r1,r2,r3,r4⟩ := h X own g a w b ob hh q1 q2 q3;exact⟨g,w',.skip,undef,Gh.le_refl g,λi hi=>⟨rfl,λ_=>rfl⟩,r1,.inr ⟨rfl,rfl⟩,.inr ⟨_,b,ho,q1,r2⟩,λb' hb=>.inr ⟨_,ho,hb⟩,λe size es h=>(by cases h),λM' he=>⟨⟨b,ob',q1,q0,r3,r4⟩,trivial⟩⟩
end
end Go.Proofs.YtbpedjpoikmbjaaGreatDoor
namespace Go.Proofs.YtbpedjpoikmbjaaGreatDoor
open Go.RowKit
set_option linter.unusedVariables false

def x1j (f:Nat->Slot):List Operand->List V->Prop
 | [],[]=>True
 | x::xs,u::us=>(argV (evS f x) u∨∃ n,x = .func n/\u=vfn n [])/\x1j f xs us
 | _,_=>False
theorem w9o {f:Nat->Slot} {g:Gh} {w:World} {M:Blks} {ev:Operand->Value} (hev:∀ n,ev (.func n) = .func (.func n) #[] #[]):∀ (xs:List Operand) (us:List V),x1j f xs us->(∀ x,x∈xs->RepS g w M (evS f x) (ev x))->Ts w M us (xs.map ev):=by
 intro xs
 induction xs with
 | nil =>
  intro us h _
  cases us with
  | nil=>exact⟨rfl,λj u hj=>by simp at hj⟩
  | cons u us=>cases h
 | cons x xs ih =>
  intro us h hv
  cases us with
  | nil=>cases h
  | cons u us =>
   have h2:=ih us h.2 (λy hy=>hv y (List.mem_cons_of_mem _ hy));refine⟨by simp [h2.1],λj u' hj=>?_⟩
   cases j with
   | zero =>
    simp at hj;subst hj;rcases h.1 with h3|⟨n,rfl,rfl⟩
    ·exact⟨_,rfl,x72 h3 (hv x (by simp))⟩
    ·refine⟨_,rfl,[],?_,rfl,λj u hj=>by simp at hj⟩;rw [hev]
   | succ j=>exact h2.2 j u' (by simpa using hj)
section
variable {P:Program} {f:Nat->Slot} {dst:Option Tmp} {ty:TypeId} {pos:String} {af:Array Edge} {gd:Option (Nat×Bool)}
theorem y2j {fn:Nat} {xs:Array Operand} {ts:Array TypeId} {us:List V} {res:V} (hF:Fn P fn us res) (ha:x1j f xs.toList us):Stp P ⟨dst,.call { callee:=.value (.func fn),args:=xs,argTypes:=ts },ty,pos,af,gd⟩ f ⟨false,[],[],.dat res⟩:=by
 intro X f' own g a w Q hr hd hx hrd K hK;unfold Oper.wp;rw [z4u hF.1 xs ts a.eval rfl w];show Calls P fn (xs.map a.eval) w _
 have hT:Ts w (Mof X g own) us (xs.map a.eval).toList:=by
  rw [Array.toList_map]
  exact w9o (λ_=>rfl) xs.toList us ha (λx hm=>by
   have:=hx x (by simp only [Op.operands,Call.operands];simp at hm ⊢;exact .inr hm)
   rw [← this];exact hr.ev x)
 refine (hF.2 _ w _ hr.mlt hT).mono ?_;rintro e w' ⟨v,rfl,h1,h2⟩;exact hK g v w' ((hr.grow h2).put _ (.dat res) v hd h1)
end

section
variable {P:Program} {f:Nat->Slot} {dst:Option Tmp} {ty:TypeId} {pos:String} {af:Array Edge} {gd:Option (Nat×Bool)}
theorem ye {o:Oper} {sk:Bool} {rd:List (Nat×Option (Option AObj))} {wr:List (Nat×Option (Option AObj))} {u u':V} (h:Stp P o f ⟨sk,rd,wr,.dat u⟩) (e:u=u'):Stp P o f ⟨sk,rd,wr,.dat u'⟩:=e ▸ h
theorem z8l {t:TypeId} {n off:Nat} {p x:Operand} {id:Nat} {an:Option Nat} {bt:TypeId} {cs:List Slot} {us:List V} (ht:tyS P t=some (true,n)) (hp:evS f p = .ptr id off) (hx:evS f x = .dat (vagg us)) (hn:us.length=n) (hc:Nat.ble (off+n) cs.length=true) :
  Stp P ⟨dst,.store t p x,ty,pos,af,gd⟩ f ⟨false,[(id,some (some (.box an bt cs)))],[(id,some (some (.box an bt (cs.take off++(us.map .dat++cs.drop (off+n))))))],.any⟩:=by
 have hc:=Nat.le_of_ble_eq_true hc;refine y6s (by simp;omega) λX own g a w h b l q1 q2 q3=>?_;have h2:=h p (by simp [Op.operands]);have h3:=h x (by simp [Op.operands]);rw [hp] at h2;rw [hx] at h3;obtain⟨b',r1,r2⟩:=h2;rw [q1] at r1;cases r1;obtain⟨l',s1,s2⟩:=h3
 have hone:∀ v∈l',v.oneCell'=true:=λv hv=>by
  obtain⟨j,hj,rfl⟩:=List.getElem_of_mem hv;have:j < us.length:=by have:=s2.1;omega
  obtain⟨x',t1,_,t3⟩:=s2.2 j us[j] (List.getElem?_eq_getElem this);rw [List.getElem?_eq_getElem hj] at t1;cases t1;exact t3
 obtain⟨d,i,d1,d2,d3,d4⟩:=uk ht
 have hrun:=run_storeAt_mid (P:=P) w b off t l'.toArray (λj hj=>by
  have hj':off+j < l.length:=by have:=s2.1;simp at hj;omega
  refine⟨?_,?_⟩
  ·rw [cell_of_row w b _ _ _ _ q2];simp [hj']
  ·simp [World.frozen?,q2]) (by rw [d3];simp [d4,s2.1,hn]) (by simpa using hone)
 have hl':l'.length=n:=by rw [s2.1];exact hn
 refine⟨w.setCells b off l',l.take off++l'++l.drop (off+l'.length),by simp only [execOp,r2,s1,Sem.run_bind,hrun,Result.andThen_ok,Sem.run_pure],?_,?_,by simp;omega,λj s hs=>?_⟩
 ·have key:∀ (vs:List Value) (w1:World) (o:Nat),Kp [b] w w1->Kp [b] w (w1.setCells b o vs):=by
   intro vs
   induction vs with
   | nil=>intro w1 o hk;rw [World.setCells];exact hk
   | cons v vs ih=>intro w1 o hk;rw [World.setCells];exact ih _ _ (hk.set_ (.inl (by simp)) v)
  exact key l' w off (Kp.refl _ _)
 ·have key:∀ (vs:List Value) (w1:World) (o:Nat) (pre:List Value),pre.length=o->w1.heap[b]?=some (.cells (pre++l.drop o).toArray bt (0,0))->o+vs.length<=l.length->(w1.setCells b o vs).heap[b]?=some (.cells (pre++vs++l.drop (o+vs.length)).toArray bt (0,0)):=by
   intro vs
   induction vs with
   | nil=>intro w1 o pre hp hb _;rw [World.setCells];simpa using hb
   | cons v vs ih =>
    intro w1 o pre hp hb hlen;have hd:l.drop o=l[o]'(by simp at hlen;omega)::l.drop (o+1):=List.drop_eq_getElem_cons (by simp at hlen;omega);have h1:=Blk.set_ (show Blk w1 b bt _ from hb) o v;unfold Blk at h1
    have h2:=ih (w1.setCell ⟨b,o,none⟩ v) (o+1) (pre++[v]) (by simp [hp]) (by
     rw [h1,hd];congr 2;simp only [List.setIfInBounds_toArray];congr 1;rw [List.set_append_right _ _ (by omega),hp,Nat.sub_self,List.set_cons_zero]
     simp) (by simp at hlen ⊢;omega)
    rw [World.setCells];simpa [Nat.add_comm,Nat.add_left_comm,Nat.add_assoc] using h2
  exact key l' w off (l.take off) (by simp;omega) (by rw [List.take_append_drop];exact q2) (by omega)
 ·rcases Nat.lt_or_ge j off with hj|hj
  ·left;rw [List.getElem?_append_left (by simp;omega),List.getElem?_take,if_pos hj] at hs;refine⟨hs,?_⟩;rw [List.append_assoc,List.getElem?_append_left (by simp;omega),List.getElem?_take,if_pos hj]
  ·have ht:(cs.take off).length=off:=by simp;omega
   rw [List.getElem?_append_right (by omega),ht] at hs;rcases Nat.lt_or_ge (j-off) n with hj2|hj2
   ·right;rw [List.getElem?_append_left (by simp;omega),List.getElem?_map] at hs
    cases hq:us[j-off]? with
    | none=>rw [hq] at hs;cases hs
    | some u =>
     rw [hq] at hs;cases hs;obtain⟨x',t1,t2,t3⟩:=s2.2 (j-off) u hq;refine⟨x',?_,t2,t3⟩;rw [List.append_assoc,List.getElem?_append_right (by simp;omega),List.getElem?_append_left (by simp;omega)];have:(l.take off).length=off:=by simp;omega
     rw [this];exact t1
   ·left;rw [List.getElem?_append_right (by simp;omega),List.getElem?_drop] at hs;have e1:off+n+(j-off-(us.map Slot.dat).length)=j:=by simp;omega
    rw [e1] at hs;refine⟨hs,?_⟩;rw [List.getElem?_append_right (by simp;omega),List.getElem?_drop];congr 1;simp;omega
end
end Go.Proofs.YtbpedjpoikmbjaaGreatDoor
namespace Go.Proofs.YtbpedjpoikmbjaaGreatDoor
open Go.RowKit
set_option linter.unusedVariables false

section
variable {P:Program} {f:Nat->Slot} {dst:Option Tmp} {ty:TypeId} {pos:String} {af:Array Edge} {gd:Option (Nat×Bool)}
theorem w0k {vv:Value} {t e:TypeId} {n m size:Nat} {p:Operand} {id k c:Nat} {es:List (List V)} {el:List V} {u:V} (ht:tyS P t=some (false,n)) (hp:evS f p = .rptr id m size k c) (hm:m=es.length) (he:es[k]?=some el) (hu:el[c]?=some u) :
  Stp P ⟨dst,.load t p,ty,pos,af,gd⟩ f ⟨false,[(id,some (some (.rowA vv e size es)))],[],.dat u⟩:=
 xa λX own g a w hh hob=>by
  have h2:=hh p (by simp [Op.operands]);rw [hp] at h2;obtain⟨b,cap,h3,h4⟩:=h2;obtain⟨xs,q1,q2,q3,q4,q5⟩:=hob;subst hm;rw [h3] at q1;cases q1;obtain⟨x,r1,r2,r3⟩:=q5 k c el u he hu;exact⟨x,by simp [execOp,h4,z82 (b:=true) ht w _ x (y3k q2 r1)],r2⟩
end

section
variable {P:Program} {f:Nat->Slot} {dst:Option Tmp} {ty:TypeId} {pos:String} {af:Array Edge} {gd:Option (Nat×Bool)}
end
end Go.Proofs.YtbpedjpoikmbjaaGreatDoor
namespace Go.Proofs.YtbpedjpoikmbjaaGreatDoor
open Go.RowKit
set_option linter.unusedVariables false

def qF (P : Program) : List Field->Nat->Option (List TypeDesc)
  | [],_=>some []
  | f :: fs, i => if f.name ≠ "_" ∧ f.offset = i ∧ tyS P f.type = some (false, 1) then (P.underlying f.type).bind fun d => (qF P fs (i + 1)).map (d :: ·) else none
def tyQ (P:Program) (t:TypeId):Option (List TypeDesc):=
 match P.underlying t with
 | some (.struct fs)=>if P.stoodInHeld t=false/\P.eqGuardType P.depth t=false then qF P fs.toList 0 else none
 | _=>none
section
variable {P:Program} {f:Nat->Slot} {dst:Option Tmp} {ty:TypeId} {pos:String} {af:Array Edge} {gd:Option (Nat×Bool)}
end
end Go.Proofs.YtbpedjpoikmbjaaGreatDoor
namespace Go.Proofs.YtbpedjpoikmbjaaGreatDoor
set_option linter.unusedVariables false

theorem Z {α:Sort _} {a:α}:a=a:=rfl
theorem U:True:=trivial
abbrev Bs:=List UInt8
abbrev wr (n:Int):Int:=IntKind.i64.wrap n
theorem wb {n:Int} (h:-9223372036854775808<=n/\n<=9223372036854775807):wr n=n:=IntWalk.i64_in n h
theorem x18 {k:Nat} (h:k<=1000000000):wr ((k:Int)+1)=((k+1:Nat):Int):=by
 rw [wb (by omega)];omega

section
variable {α β σ ρ:Type}
def at? (l:List α) (m:Int):Option α:=if 0<=m then l[m.toNat]? else none
theorem z1s (l:List α) (k:Nat):at? l (k:Int)=l[k]?:=by simp [at?]
theorem qi {l:List α} {m:Int} {x:α} (h:at? l m=some x):(0<=m/\m < (l.length:Int))/\l[m.toNat]?=some x:=by
 unfold at? at h;split at h
 ·obtain⟨h1,_⟩:=List.getElem?_eq_some_iff.1 h;exact⟨⟨by assumption,by omega⟩,h⟩
 ·cases h
def sub? (l:List α) (a b:Int):Option (List α):=if 0<=a/\a<=b/\b<=(l.length:Int) then some ((l.drop a.toNat).take (b.toNat-a.toNat)) else none
theorem ji {l:List α} {k:Nat} {x:α} (h:l[k]?=some x):k < l.length:=(List.getElem?_eq_some_iff.1 h).1
theorem bnd {o:Option α} {f:α->Option β} {r:β} (h:o.bind f=some r):∃ x,o=some x/\f x=some r:=by
 cases o with
 | none=>cases h
 | some x=>exact⟨x,rfl,h⟩
theorem gif {c:Prop} [Decidable c] {a:Option α} {r:α} (h:(if c then a else none)=some r):c/\a=some r:=by
 split at h
 ·exact⟨by assumption,h⟩
 ·cases h
theorem ift {b:Bool} {x y r:Option α} (hb:b=true) (h:(if b=true then x else y)=r):x=r:=by rw [if_pos hb] at h;exact h
theorem iff_ {b:Bool} {x y r:Option α} (hb:b=false) (h:(if b=true then x else y)=r):y=r:=by rw [if_neg (by rw [hb];decide)] at h;exact h
def after (K:σ->Option ρ):σ ⊕ ρ->Option ρ
 | .inl s=>K s
 | .inr r=>some r
def forL (body:Nat->α->σ->Option (σ ⊕ ρ)) (fin:σ->Option ρ):Nat->List α->σ->Option ρ
 | _,[],s=>fin s
 | k,x::l,s=>(body k x s).bind (after (forL body fin (k+1) l))
def rng (body:Nat->σ->Option (σ ⊕ ρ)) (fin:σ->Option ρ):Nat->Nat->σ->Option ρ
 | 0,_,s=>fin s
 | n+1,k,s=>(body k s).bind (after (rng body fin n (k+1)))
def itN (body:σ->Option (σ ⊕ ρ)):Nat->σ->Option ρ
 | 0,_=>none
 | n+1,s=>(body s).bind (after (itN body n))
open Classical in
noncomputable def iter (body:σ->Option (σ ⊕ ρ)) (s:σ):Option ρ:=if h:∃ n r,itN body n s=some r then some h.choose_spec.choose else none
theorem x6p {body:σ->Option (σ ⊕ ρ)}:∀ (n m:Nat) (s:σ) (r:ρ),itN body n s=some r->n<=m->itN body m s=some r:=by
 intro n
 induction n with
 | zero=>intro m s r h;cases h
 | succ n ih =>
  intro m s r h hm;obtain⟨m,rfl⟩:∃ q,m=q+1:=⟨m-1,by omega⟩
  obtain⟨q,h1,h2⟩:=bnd h;show (body s).bind _=_;rw [h1]
  cases q with
  | inl s'=>exact ih m s' r h2 (by omega)
  | inr r'=>exact h2
theorem Wu {body:σ->Option (σ ⊕ ρ)} {s:σ} {r:ρ}:iter body s=some r↔∃ n,itN body n s=some r:=by
 unfold iter;constructor
 ·intro h;split at h
  ·rename_i hx;injection h with h
   subst h;exact⟨_,hx.choose_spec.choose_spec⟩
  ·cases h
 ·rintro⟨n,hn⟩;have hx:∃ n r,itN body n s=some r:=⟨n,r,hn⟩
  rw [dif_pos hx];have h1:=hx.choose_spec.choose_spec;have h2:=x6p _ (max n hx.choose) s _ hn (Nat.le_max_left _ _);have h3:=x6p _ (max n hx.choose) s _ h1 (Nat.le_max_right _ _);rw [h2] at h3;exact h3.symm
theorem w6s (body:σ->Option (σ ⊕ ρ)) (s:σ):iter body s=(body s).bind (after (iter body)):=by
 apply Option.ext;intro r;constructor
 ·intro h;obtain⟨n,hn⟩:=Wu.1 h
  cases n with
  | zero=>cases hn
  | succ n =>
   obtain⟨q,h1,h2⟩:=bnd hn;rw [h1]
   cases q with
   | inl s'=>exact Wu.2 ⟨n,h2⟩
   | inr r'=>exact h2
 ·intro h;obtain⟨q,h1,h2⟩:=bnd h
  cases q with
  | inl s' =>
   obtain⟨n,hn⟩:=Wu.1 h2;exact Wu.2 ⟨n+1,by show (body s).bind _=_;rw [h1];exact hn⟩
  | inr r'=>exact Wu.2 ⟨1,by show (body s).bind _=_;rw [h1];exact h2⟩
theorem bE {o:Option α} {f:α->Option β} {r:β} {G:Prop} (h:o.bind f=some r) (k:∀ x,o=some x->f x=some r->G):G:=let ⟨x,a,b⟩:=bnd h;k x a b
theorem gE {c:Prop} [Decidable c] {a:Option α} {r:α} {G:Prop} (h:(if c then a else none)=some r) (k:c->a=some r->G):G:=k (gif h).1 (gif h).2
theorem tE {b:Bool} {x y r:Option α} {G:Prop} (hb:b=true) (h:(if b=true then x else y)=r) (k:x=r->G):G:=k (ift hb h)
theorem fE {b:Bool} {x y r:Option α} {G:Prop} (hb:b=false) (h:(if b=true then x else y)=r) (k:y=r->G):G:=k (iff_ hb h)
theorem hE {a G:Prop} (h:a) (k:a->G):G:=k h
theorem outl {E:Option ρ} {q:σ ⊕ ρ} {r:ρ} (H:E.map .inr=some q) (hq:∀ r',q = .inr r'->r'=r):E=some r:=by
 cases E with
 | none=>cases H
 | some e=>injection H with H;rw [hq e H.symm]
theorem retl {e:ρ} {q:σ ⊕ ρ} {r:ρ} (H:some (.inr e)=some q) (hq:∀ r',q = .inr r'->r'=r):some e=some r:=by
 injection H with H;rw [hq e H.symm]
theorem qf {s:σ} {q:σ ⊕ ρ} (H:some (.inl s)=some q):q = .inl s:=by injection H with H;exact H.symm
theorem lt_t {n:Nat} (h:decide ((n:Int) < (n:Int))=true):False:=by simp at h
theorem lt_f {k n:Nat} (hk:k < n) (h:decide ((k:Int) < (n:Int))=false):False:=by simp at h;omega
theorem z6b {m:Int} (h:decide ((m.toNat:Int) < m)=true):False:=by simp at h;omega
theorem z6c {k:Nat} {m:Int} (hk:k < m.toNat) (h:decide ((k:Int) < m)=false):False:=by simp at h;omega
theorem x7f {l:List α} {k:Nat} {x:α} {xs:List α} (h:l.drop k=x::xs):k < l.length/\l[k]?=some x/\l.drop (k+1)=xs:=by
 have h1:k < l.length:=by
  rcases Nat.lt_or_ge k l.length with h1|h1
  ·exact h1
  ·rw [List.drop_eq_nil_of_le h1] at h;cases h
 rw [List.drop_eq_getElem_cons h1] at h;injection h with h2 h3
 exact⟨h1,by rw [List.getElem?_eq_getElem h1,h2],h3⟩
end
end Go.Proofs.YtbpedjpoikmbjaaGreatDoor
namespace Go.Proofs.YtbpedjpoikmbjaaGreatDoor
open Go.RowKit
set_option linter.unusedVariables false

def Wk (u u':V):Prop:=∀ w M v,u.p w M v->u'.p w M v
theorem z0c {u:V}:Wk u u:=λ_ _ _ h=>h
theorem z7z:Wk vnil (vlst []):=λw M v h=>⟨none,0,h,Nat.le_refl _,λh=>absurd rfl h⟩
def WkL:List V->List V->Prop
 | [],[]=>True
 | u::us,u'::us'=>Wk u u'/\WkL us us'
 | _,_=>False
theorem x2d:∀ {us us':List V},WkL us us'->us.length=us'.length/\∀ (j:Nat) (u':V),us'[j]?=some u'->∃ u,us[j]?=some u/\Wk u u'
 | [],[],_=>⟨rfl,λj u' h=>by simp at h⟩
 | u::us,u'::us',h=>by
  obtain⟨h1,h2⟩:=x2d h.2;refine⟨by simp [h1],λj v' hj=>?_⟩
  cases j with
  | zero=>simp at hj;subst hj;exact⟨u,rfl,h.1⟩
  | succ j=>exact h2 j v' (by simpa using hj)
 | [],_::_,h=>h.elim
 | _::_,[],h=>h.elim
theorem x2c {us us':List V} (h:WkL us us'):Wk (vagg us) (vagg us'):=by
 rintro w M v ⟨l,h1,h2,h3⟩;obtain⟨q1,q2⟩:=x2d h;refine⟨l,h1,by omega,λj u' hj=>?_⟩;obtain⟨u,r1,r2⟩:=q2 j u' hj;obtain⟨x,s1,s2,s3⟩:=h3 j u r1;exact⟨x,s1,r2 _ _ _ s2,s3⟩

section
variable {P:Program} {X:Ctx} {Q:Exit->(Nat->Slot)->Own->Prop} {f:Nat->Slot} {own:Own}

theorem Rel.wk {g:Gh} {a:Act} {w:World} {u u':V} {t:Nat} (h:Rel X f own g a w) (hf:f t = .dat u) (hw:Wk u u'):Rel X (updS f (some t) (.dat u')) own g a w:=by
 refine⟨h.kp,h.m0,h.n,h.df,λs=>?_,h.ob,h.sep,h.mine,h.fresh,h.top⟩;have h1:=h.fr s
 by_cases hs:s=t
 ·subst hs;have e1:Nat.beq s s=true:=by simp
  simp only [updS,e1,cond_true];rw [hf] at h1;exact hw _ _ _ h1
 ·simp only [updS,qz hs,cond_false];exact h1
theorem x8w (f:Nat->Slot) (t:Nat) (s s':Slot):updS (updS f (some t) s) (some t) s'=updS f (some t) s':=by
 funext x;simp only [updS];cases Nat.beq x t <;> rfl
theorem x3l {o:Oper} {sk:Bool} {rd wr:List (Nat×Option (Option AObj))} {u u':V} (hw:Wk u u') (h:Stp P o f ⟨sk,rd,wr,.dat u⟩):Stp P o f ⟨sk,rd,wr,.dat u'⟩:=by
 intro X f' own g a w Q hr hd hx hrd K hK;refine h X f' own g a w Q hr hd hx hrd K λg' v w' hr'=>hK g' v w' ?_
 cases hds:o.dst with
 | none=>rw [hds] at hr';exact hr'
 | some d =>
  rw [hds] at hr';have h2:=hr'.wk (t:=d) (u:=u) (u':=u') (by simp [updS]) hw;rw [x8w] at h2;exact h2
theorem yq {ι:Type} {x y:Code} (F:ι->List (Nat×Slot)) (O:ι->List (Nat×AObj)) (I:ι->Prop) (hok:∀ i,okL (F i) (O i)=true)
  (hx:AWP P X x (λe f own=>match e with|.normal=>∃ i,I i/\subF f (F i)/\subO own (O i)|e=>Q e f own) f own)
  (hy:∀ i,I i->AWP P X y Q (frs (F i)) (ows (O i))):AWP P X (.seq x y) Q f own:=by
 intro g a w hr;refine wpIn_seq (wpIn_mono (hx g a w hr) ?_);rintro e a' w' ⟨f',own',g',h1,h2⟩
 cases e with
 | normal =>
  obtain⟨i,hi,hs,ho⟩:=h2;obtain⟨g'',h3⟩:=h1.less (F i) (O i) hs ho (hok i);exact hy i hi g'' a' w' h3
 | exit id=>exact⟨f',own',g',h1,h2⟩
 | goto l=>exact⟨f',own',g',h1,h2⟩
 | ret=>exact⟨f',own',g',h1,h2⟩
 | panic ch=>exact⟨f',own',g',h1,h2⟩
 | outgrown=>exact⟨f',own',g',h1,h2⟩

section
variable {α σ ρ:Type} {c:Code}
theorem ua {body:σ->Option (σ ⊕ ρ)} {r:ρ} (F:σ->List (Nat×Slot)) (O:σ->List (Nat×AObj)) (s0:σ) (H:iter body s0=some r) (hf:subF f (F s0)) (ho:subO own (O s0)) (hok:∀ s,okL (F s) (O s)=true)
  (round:∀ s q,body s=some q->(∀ r',q = .inr r'->r'=r)->AWP P X c (λe f own=>match e with|.normal=>∃ s',q = .inl s'/\subF f (F s')/\subO own (O s')|e=>Q e f own) (frs (F s)) (ows (O s))):AWP P X (.loop c) Q f own:=by
 obtain⟨n,hn⟩:=Wu.1 H;refine z36 (ι:=Nat×σ) (λi=>F i.2) (λi=>O i.2) (λi=>itN body i.1 i.2=some r) (λi=>i.1) (n,s0) hn hf ho (λi=>hok i.2) ?_;rintro⟨n,s⟩ hI
 cases n with
 | zero=>cases hI
 | succ n =>
  obtain⟨q,h1,h2⟩:=bnd hI;refine Wz (round s q h1 λr' hq=>by subst hq;injection h2) ?_;intro e f own hQ
  cases e with
  | normal =>
   obtain⟨s',h3,h4,h5⟩:=hQ;subst h3;exact⟨(n,s'),h2,Nat.lt_succ_self _,h4,h5⟩
  | exit id=>exact hQ
  | goto l=>exact hQ
  | ret=>exact hQ
  | panic ch=>exact hQ
  | outgrown=>exact hQ
theorem z34 {body:Nat->σ->Option (σ ⊕ ρ)} {fin:σ->Option ρ} {r:ρ} {n:Nat} (F:Nat->σ->List (Nat×Slot)) (O:Nat->σ->List (Nat×AObj)) (s0:σ) (H:rng body fin n 0 s0=some r) (hf:subF f (F 0 s0)) (ho:subO own (O 0 s0)) (hok:∀ k s,okL (F k s) (O k s)=true)
  (stop:∀ s,fin s=some r->AWP P X c (λe f own=>match e with|.normal=>False|e=>Q e f own) (frs (F n s)) (ows (O n s)))
  (round:∀ k s q,k < n->body k s=some q->(∀ r',q = .inr r'->r'=r)->AWP P X c (λe f own=>match e with|.normal=>∃ s',q = .inl s'/\subF f (F (k+1) s')/\subO own (O (k+1) s')|e=>Q e f own) (frs (F k s)) (ows (O k s))):AWP P X (.loop c) Q f own:=by
 refine z36 (ι:=Nat×Nat×σ) (λi=>F i.2.1 i.2.2) (λi=>O i.2.1 i.2.2) (λi=>i.1+i.2.1=n/\rng body fin i.1 i.2.1 i.2.2=some r) (λi=>i.1) (n,0,s0) ⟨rfl,H⟩ hf ho (λi=>hok i.2.1 i.2.2) ?_;rintro⟨m,k,s⟩ ⟨hn,hI⟩
 cases m with
 | zero =>
  have hk:k=n:=by simpa using hn
  subst hk;refine Wz (stop s hI) ?_;intro e f own hQ
  cases e with
  | normal=>exact hQ.elim
  | exit id=>exact hQ
  | goto l=>exact hQ
  | ret=>exact hQ
  | panic ch=>exact hQ
  | outgrown=>exact hQ
 | succ m =>
  obtain⟨q,h1,h2⟩:=bnd hI;simp only at hn;refine Wz (round k s q (by omega) h1 λr' hq=>by subst hq;injection h2) ?_;intro e f own hQ
  cases e with
  | normal =>
   obtain⟨s',h3,h4,h5⟩:=hQ;subst h3;exact⟨(m,k+1,s'),⟨by simp only;omega,h2⟩,Nat.lt_succ_self _,h4,h5⟩
  | exit id=>exact hQ
  | goto l=>exact hQ
  | ret=>exact hQ
  | panic ch=>exact hQ
  | outgrown=>exact hQ
theorem va {l:List α} {body:Nat->α->σ->Option (σ ⊕ ρ)} {fin:σ->Option ρ} {r:ρ} (F:Nat->σ->List (Nat×Slot)) (O:Nat->σ->List (Nat×AObj)) (s0:σ) (H:forL body fin 0 l s0=some r) (hf:subF f (F 0 s0)) (ho:subO own (O 0 s0)) (hok:∀ k s,okL (F k s) (O k s)=true)
  (stop:∀ s,fin s=some r->AWP P X c (λe f own=>match e with|.normal=>False|e=>Q e f own) (frs (F l.length s)) (ows (O l.length s)))
  (round:∀ k x s q,k < l.length->l[k]?=some x->body k x s=some q->(∀ r',q = .inr r'->r'=r)->AWP P X c (λe f own=>match e with|.normal=>∃ s',q = .inl s'/\subF f (F (k+1) s')/\subO own (O (k+1) s')|e=>Q e f own) (frs (F k s)) (ows (O k s))):AWP P X (.loop c) Q f own:=by
 refine z36 (ι:=List α×Nat×σ) (λi=>F i.2.1 i.2.2) (λi=>O i.2.1 i.2.2) (λi=>i.2.1<=l.length/\l.drop i.2.1=i.1/\forL body fin i.2.1 i.1 i.2.2=some r) (λi=>i.1.length) (l,0,s0) ⟨Nat.zero_le _,rfl,H⟩ hf ho (λi=>hok i.2.1 i.2.2) ?_;rintro⟨xs,k,s⟩ ⟨hkl,hn,hI⟩
 cases xs with
 | nil =>
  have hk:k=l.length:=by
   have:=congrArg List.length hn;simp only [List.length_drop,List.length_nil] at this;simp only at hkl;omega
  subst hk;refine Wz (stop s hI) ?_;intro e f own hQ
  cases e with
  | normal=>exact hQ.elim
  | exit id=>exact hQ
  | goto l=>exact hQ
  | ret=>exact hQ
  | panic ch=>exact hQ
  | outgrown=>exact hQ
 | cons x xs =>
  obtain⟨q,h1,h2⟩:=bnd hI;obtain⟨d1,d2,d3⟩:=x7f hn;refine Wz (round k x s q d1 d2 h1 λr' hq=>by subst hq;injection h2) ?_;intro e f own hQ
  cases e with
  | normal =>
   obtain⟨s',h3,h4,h5⟩:=hQ;subst h3;exact⟨(xs,k+1,s'),⟨d1,d3,h2⟩,by simp,h4,h5⟩
  | exit id=>exact hQ
  | goto l=>exact hQ
  | ret=>exact hQ
  | panic ch=>exact hQ
  | outgrown=>exact hQ
end
end

section
variable {P:Program} {f:Nat->Slot} {dst:Option Tmp} {ty:TypeId} {pos:String} {af:Array Edge} {gd:Option (Nat×Bool)}
variable {α:Type} {C:α->List V} {xs ys:List α}
theorem qa {k:Nat} {x:α} (h:xs[k]?=some x):(xs.map C)[k]?=some (C x):=by rw [List.getElem?_map,h];rfl
theorem z0t {k:Nat} {x y:α} (h:xs[k]?=some x):(xs.set k y)[k]?=some y:=by rw [List.getElem?_set_self (ji h)]
theorem y8u {n:Nat} (hC:∀ y,(C y).length=n):∀ el,el∈xs.map C->el.length=n:=by
 intro el h;obtain⟨p,_,rfl⟩:=List.mem_map.1 h;exact hC p
theorem wm {t e:TypeId} {n:Nat} {x ix:Operand} {k:Nat} {y:α} (h:tyE P t=some (e,n)) (hC:∀ y,(C y).length=n) (hx:evS f x = .dat (vlst (xs.map C))) (hi:evS f ix = .dat (vint (k:Int))) (hk:xs[k]?=some y) :
  Stp P ⟨dst,.indexAddr t x ix,ty,pos,af,gd⟩ f ⟨false,[],[],.dat (qn (xs.map C) k 0)⟩:=
 y2i h hx hi (by rw [List.length_map];exact ji hk) (y8u hC)
theorem vx {t e:TypeId} {n:Nat} {x ix:Operand} {m:Int} {y:α} (h:tyE P t=some (e,n)) (hC:∀ y,(C y).length=n) (hx:evS f x = .dat (vlst (xs.map C))) (hi:evS f ix = .dat (vint m)) (hk:at? xs m=some y) :
  Stp P ⟨dst,.indexAddr t x ix,ty,pos,af,gd⟩ f ⟨false,[],[],.dat (qn (xs.map C) m.toNat 0)⟩:=
 w0t h hx hi (by rw [List.length_map];exact (qi hk).1) (y8u hC)
theorem yx {x:Operand} {t e:TypeId} (ht:P.underlying t=some (.slice e)) (hx:evS f x = .dat (vlst (xs.map C))):Stp P ⟨dst,.call { callee:=.builtin .len,args:=#[x],argTypes:=#[t] },ty,pos,af,gd⟩ f ⟨false,[],[],.dat (vint (xs.length:Int))⟩:=
 ye (w0n ht hx) (by rw [List.length_map])
theorem Qf {x:Operand} {t e:TypeId} {id n:Nat} {e':TypeId} {size:Nat} (ht:P.underlying t=some (.slice e)) (hx:evS f x = .row id n) (hn:n=xs.length) :
  Stp P ⟨dst,.call { callee:=.builtin .len,args:=#[x],argTypes:=#[t] },ty,pos,af,gd⟩ f ⟨false,[(id,some (some (.row e' size (xs.map C))))],[],.dat (vint (xs.length:Int))⟩:=
 ye (y6r ht hx (by rw [List.length_map];exact hn)) (by rw [List.length_map])
theorem z0q {t e e':TypeId} {n n':Nat} {x ix:Operand} {id:Nat} {m:Int} {y:α} (h:tyE P t=some (e,n')) (hx:evS f x = .row id n) (hn:n=xs.length) (hi:evS f ix = .dat (vint m)) (hk:at? xs m=some y) :
  Stp P ⟨dst,.indexAddr t x ix,ty,pos,af,gd⟩ f ⟨false,[(id,some (some (.row e' n' (xs.map C))))],[],.rptr id n n' m.toNat 0⟩:=
 x3q h hx hi (by rw [List.length_map];exact hn) (by rw [List.length_map];exact (qi hk).1)
theorem x3b {t e:TypeId} {n m size:Nat} {p:Operand} {id k c:Nat} {y:α} {u:V} (ht:tyS P t=some (false,n)) (hp:evS f p = .rptr id m size k c) (hm:m=xs.length) (he:xs[k]?=some y) (hu:(C y)[c]?=some u) :
  Stp P ⟨dst,.load t p,ty,pos,af,gd⟩ f ⟨false,[(id,some (some (.row e size (xs.map C))))],[],.dat u⟩:=
 x3o ht hp (by rw [List.length_map];exact hm) (qa he) hu
theorem z17 {t e:TypeId} {n m size:Nat} {p:Operand} {id k:Nat} {y:α} (ht:tyS P t=some (true,n)) (hp:evS f p = .rptr id m size k 0) (hm:m=xs.length) (he:xs[k]?=some y) (hn:size=n) :
  Stp P ⟨dst,.load t p,ty,pos,af,gd⟩ f ⟨false,[(id,some (some (.row e size (xs.map C))))],[],.dat (vagg (C y))⟩:=
 w0j ht hp (by rw [List.length_map];exact hm) (qa he) hn
theorem Zv {t e:TypeId} {b0:Bool} {m size:Nat} {p x:Operand} {id k c:Nat} {y:α} (y':α) {v:V} (ht:tyS P t=some (b0,1)) (hp:evS f p = .rptr id m size k c) (hx:evS f x = .dat v) (h1:v.one=true) (hm:m=xs.length) (he:xs[k]?=some y) (hc':Nat.blt c (C y).length=true) (hy:(C y).set c v=C y') :
  Stp P ⟨dst,.store t p x,ty,pos,af,gd⟩ f ⟨false,[(id,some (some (.row e size (xs.map C))))],[(id,some (some (.row e size ((xs.set k y').map C))))],.any⟩:=by
 have h:=x93 (dst:=dst) (ty:=ty) (pos:=pos) (af:=af) (gd:=gd) (e:=e) ht hp hx h1 (by rw [List.length_map];exact hm) (qa (C:=C) he) hc';rw [hy,← List.map_set] at h;exact h
theorem vy {t e:TypeId} {size bytes:Nat} {x y:Operand} {id n:Nat} (hE:Elem P t e size bytes) (hC:∀ y,(C y).length=size) (hx:evS f x = .row id n) (hn:n=xs.length) (hy:evS f y = .dat (vlst (ys.map C))) (hlen:ys≠[]/\xs.length+ys.length<=1000000000) (hby:Nat.ble bytes 140737=true) :
  Stp P ⟨dst,.call { callee:=.builtin .append,args:=#[x,y],argTypes:=#[t,t] },ty,pos,af,gd⟩ f ⟨false,[(id,some (some (.row e size (xs.map C))))],[(id,some (some (.row e size ((xs++ys).map C))))],.row id (xs++ys).length⟩:=by
 subst hn
 have hb:=Nat.le_of_ble_eq_true hby
 have h:=y6t (dst:=dst) (ty:=ty) (pos:=pos) (af:=af) (gd:=gd) (id:=id) (es:=xs.map C) (news:=ys.map C) hE (by rw [List.length_map];exact hx) hy (by simpa using hlen.1) (y8u hC) (by simp only [List.length_map];exact hlen.2)
  (by simp only [List.length_map];exact Nat.le_trans (Nat.mul_le_mul hlen.2 hb) (by decide))
 rw [← List.map_append,List.length_map] at h;exact h
theorem x9m (id:Nat) (z:α) {t e:TypeId} {size bytes:Nat} {x y:Operand} {n:Nat} {zs:List Value} (hE:Elem P t e size bytes) (hz:tyZ P e=some zs) (h1:zs.all (·.oneCell')=true) (hx:evS f x = .dat (vint (n:Int))) (hy:evS f y = .dat (vint (n:Int))) (hCz:zs.map vval=C z) (hm:n<=1000000000) (hby:Nat.ble bytes 140737=true) :
  Stp P ⟨dst,.makeSlice t x y,ty,pos,af,gd⟩ f ⟨false,[(id,none)],[(id,some (some (.row e size ((List.replicate n z).map C))))],.row id n⟩:=by
 have hb:=Nat.le_of_ble_eq_true hby;have h:=w0h (dst:=dst) (ty:=ty) (pos:=pos) (af:=af) (gd:=gd) id hE hz h1 hx hy (Nat.le_refl _) hm (Nat.le_trans (Nat.mul_le_mul hm hb) (by decide));rw [hCz] at h;rw [List.map_replicate];exact h
theorem x3d {X:Ctx} {Q:Exit->(Nat->Slot)->Own->Prop} {own:Own} {c:Code} (t id:Nat) {e:TypeId} {size n:Nat} (hf:f t = .row id n) (ho:own id=some (some (.row e size (xs.map C)))) (hn:n=xs.length) (h:AWP P X c Q (updS f (some t) (.dat (vlst (xs.map C)))) (upl own [(id,some none)])):AWP P X c Q f own:=
 x7z t id hf ho (by rw [List.length_map];exact hn) h
theorem ue {own:Own} {id n:Nat} {e:TypeId} {size:Nat} (ho:own id=some (some (.row e size (xs.map C)))) (hn:n=xs.length):x1w own (.row id n) (vlst (xs.map C)):=⟨e,size,_,ho,by rw [List.length_map];exact hn,rfl⟩
theorem x3g {t:TypeId} {x ix:Operand} {l:Bs} {k:Nat} {c:UInt8} (ht:P.underlying t=some .string) (hx:evS f x = .dat (vstr l)) (hi:evS f ix = .dat (vint (k:Int))) (hk:l[k]?=some c) :
  Stp P ⟨dst,.index t x ix,ty,pos,af,gd⟩ f ⟨false,[],[],.dat (vval (.int .u8 (c.toNat:Int)))⟩:=
 ye (w0p ht hx hi (ji hk)) (by unfold byt;rw [List.getD_eq_getElem?_getD,hk];rfl)
theorem x9k {t:TypeId} {x:Operand} {lo hi:Option Operand} {l r:Bs} {a b:Int} (ht:P.underlying t=some .string) (hx:evS f x = .dat (vstr l))
  (hlo:match lo with|none=>a=0|some y=>evS f y = .dat (vint a)) (hhi:match hi with|none=>b=(l.length:Int)|some y=>evS f y = .dat (vint b)) (hs:sub? l a b=some r) :
  Stp P ⟨dst,.slice t x lo hi none,ty,pos,af,gd⟩ f ⟨false,[],[],.dat (vstr r)⟩:=by
 obtain⟨⟨h1,h2,h3⟩,h4⟩:=gif hs;injection h4 with h4
 subst h4;have e1:((a.toNat:Nat):Int)=a:=by omega
 have e2:((b.toNat:Nat):Int)=b:=by omega
 refine x90 (a:=a.toNat) (b:=b.toNat) ht hx ?_ ?_ (by omega) (by omega)
 ·cases lo with
  | none=>simp only at hlo ⊢;omega
  | some y=>simp only at hlo ⊢;rw [e1];exact hlo
 ·cases hi with
  | none=>simp only at hhi ⊢;omega
  | some y=>simp only at hhi ⊢;rw [e2];exact hhi
end
end Go.Proofs.YtbpedjpoikmbjaaGreatDoor
namespace Go.Proofs.YtbpedjpoikmbjaaGreatDoor
open Go.RowKit
set_option linter.unusedVariables false

structure Mem (X:Ctx) (own:Own) (g:Gh) (w:World):Prop where
 kp:Kp X.S0 X.w0 w
 m0:x8h X.M0 X.w0 X.S0
 ob:∀ id o,own id=some (some o)->RepO g w (Mof X g own) id o
 sep:∀ id id' o o' b,own id=some (some o)->own id'=some (some o')->obk g id o=some b->obk g id' o'=some b->id=id'
 mine:∀ id o b,own id=some (some o)->obk g id o=some b->b∈X.S0∨X.w0.heap.size<=b
 fresh:∀ id,own id=none->g.bl id=none/\∀ n,g.sv id n=none
 top:∀ id e size es,own id=some (some (.row e size es))->∀ k,es.length < k->g.sv id k=none

structure An where
 bl:Nat->Nat
 vl:Nat->Value
def anO (A:An) (i:Nat):AObj->AObj
 | .box (some _) t cs=>.box (some (A.bl i)) t cs
 | .opq (some _) R=>.opq (some (A.bl i)) R
 | .rowA _ e size es=>.rowA (A.vl i) e size es
 | o=>o
def anL (A:An):List (Nat×AObj)->List (Nat×AObj)
 | []=>[]
 | (i,o)::l=>(i,anO A i o)::anL A l
theorem x75 (A:An) (l:List (Nat×AObj)):anL A l=l.map λp=>(p.1,anO A p.1 p.2):=by
 induction l with
 | nil=>rfl
 | cons p l ih=>obtain⟨i,o⟩:=p;simp only [anL,ih,List.map_cons]

def FnG (P:Program) (fn:Nat) (args:List Slot) (pre:List (Nat×AObj)) (res:Slot) (post:List (Nat×AObj)):Prop:=
 uv P fn=true/\∀ (X:Ctx) (A:An) (g:Gh) (w:World) (vs:Array Value),X.w0=w->Mem X (ows (anL A pre)) g w->vs.size=args.length ->
  (∀ (j:Nat) (s:Slot),args[j]?=some s->∃ v,vs[j]?=some v/\RepS g w (Mof X g (ows (anL A pre))) s v) ->
  Calls P fn vs w λe w'=>∃ v g',e = .returned v/\Mem X (ows (anL A post)) g' w'/\RepS g' w' (Mof X g' (ows (anL A post))) res v

def ResD (P:Program) (f:Nat->Slot) (own:Own):List ResultVar->List V->Prop
 | [],[]=>True
 | .tmp t::rs,u::us=>f t = .dat u/\ResD P f own rs us
 | .cell t ty::rs,u::us=>(∃ id an cs ws,f t = .ptr id 0/\own id=some (some (.box an ty cs))/\cs=List.map Slot.dat ws/\u=vagg ws/\tyS P ty=some (true,ws.length))/\ResD P f own rs us
 | _,_=>False
def ResC (f:Nat->Slot):List ResultVar->List Cmp->Prop
 | [],[]=>True
 | .tmp t::rs,c::cs=>f t=c.s/\ResC f rs cs
 | _,_=>False
def ResG (P:Program) (f:Nat->Slot) (own:Own) (rs:List ResultVar) (res:Slot):Prop:=
 (∃ us,ResD P f own rs us/\res = .dat (yb us))∨(∃ t,rs=[.tmp t]/\f t=res)∨∃ c1 c2 cs,ResC f rs (c1::c2::cs)/\res = .comp true (c1::c2::cs)

theorem w1q {P:Program} {X:Ctx} {f:Nat->Slot} {own:Own} {g:Gh} {a:Act} {w:World} (h:Rel X f own g a w) :
  ∀ (rs:List ResultVar) (us:List V),ResD P f own rs us->∃ l:List Value,
   (rs.mapM (resF a.tmps)).run P w = .ok l w/\Ts w (Mof X g own) us l:=by
 intro rs
 induction rs with
 | nil =>
  intro us hu
  cases us with
  | nil=>exact⟨[],by simp,rfl,λj u hj=>by simp at hj⟩
  | cons u us=>cases hu
 | cons r rs ih =>
  intro us hu
  cases us with
  | nil=>cases r <;> cases hu
  | cons u us =>
   have hTs:∀ (v:Value) (l:List Value),u.p w (Mof X g own) v->Ts w (Mof X g own) us l->Ts w (Mof X g own) (u::us) (v::l):=λv l hv hl =>
    ⟨by simp [hl.1],λj u' hj=>by
     cases j with
     | zero=>simp at hj;subst hj;exact⟨v,rfl,hv⟩
     | succ j=>exact hl.2 j u' (by simpa using hj)⟩
   cases r with
   | tmp t =>
    obtain⟨h1,h2⟩:=hu;obtain⟨l,q1,q2⟩:=ih us h2;have hfr:=h.fr t;rw [h1] at hfr;refine⟨a.tmps.getD t undef::l,?_,hTs _ _ hfr q2⟩;simp only [List.mapM_cons,resF,Sem.run_bind,Sem.run_pure,Result.andThen_ok,q1]
   | cell t ty =>
    obtain⟨⟨id,an,cs,ws,h1,h2,h3,h4,h6⟩,h5⟩:=hu;obtain⟨l,q1,q2⟩:=ih us h5;obtain⟨d,i,r1,r2,r3,r4⟩:=uk h6;have hfr:=h.fr t;rw [h1] at hfr;obtain⟨b,s1,s2⟩:=hfr;obtain⟨b',lv,o1,_,o2,o3,o4⟩:=h.ob id _ h2;rw [s1] at o1;cases o1;have hrun:=run_loadVar_mid (P:=P) w b 0 ty lv d (λj v hv=>by rw [cell_of_row w b _ _ _ _ o2];simpa using hv) r1 r2 (by rw [r3];simp [o3,r4,h3]);refine⟨.agg lv.toArray::l,?_,hTs _ _ ?_ q2⟩
    ·simp only [List.mapM_cons,resF,s2,asAddr,Sem.run_bind,Sem.run_pure,Result.andThen_ok,hrun,q1]
    ·subst h4;refine⟨lv,rfl,by rw [o3,h3];simp,λj u' hj=>?_⟩;obtain⟨x,p1,p2,p3⟩:=o4 j (.dat u') (by rw [h3];simp [hj]);exact⟨x,p1,p2,p3⟩
theorem Cmp.rep {g:Gh} {w:World} {M:Blks} {c:Cmp} {v:Value} (h:RepS g w M c.s v):RepC g w M c v:=by cases c <;> exact h
theorem w1r {P:Program} {X:Ctx} {f:Nat->Slot} {own:Own} {g:Gh} {a:Act} {w:World} (h:Rel X f own g a w) :
  ∀ (rs:List ResultVar) (cs:List Cmp),ResC f rs cs->∃ l:List Value,
   (rs.mapM (resF a.tmps)).run P w = .ok l w/\l.length=cs.length/\∀ (j:Nat) (c:Cmp),cs[j]?=some c->∃ x,l[j]?=some x/\RepC g w (Mof X g own) c x:=by
 intro rs
 induction rs with
 | nil =>
  intro us hu
  cases us with
  | nil=>exact⟨[],by simp,rfl,λj u hj=>by simp at hj⟩
  | cons u us=>cases hu
 | cons r rs ih =>
  intro us hu
  cases us with
  | nil=>cases r <;> cases hu
  | cons u us =>
   cases r with
   | tmp t =>
    obtain⟨h1,h2⟩:=hu;obtain⟨l,q1,q2,q3⟩:=ih us h2;have hfr:=h.fr t;rw [h1] at hfr;refine⟨a.tmps.getD t undef::l,?_,by simp [q2],λj c hj=>?_⟩
    ·simp only [List.mapM_cons,resF,Sem.run_bind,Sem.run_pure,Result.andThen_ok,q1]
    ·cases j with
     | zero=>simp at hj;subst hj;exact⟨_,rfl,Cmp.rep hfr⟩
     | succ j=>exact q3 j c (by simpa using hj)
   | cell t ty=>cases hu
theorem x4c {P:Program} {X:Ctx} {f:Nat->Slot} {own:Own} {g:Gh} {a:Act} {w:World} (h:Rel X f own g a w) (fc:Func) (res:Slot) (hres:ResG P f own fc.results.toList res):∃ v,(results fc a.tmps).run P w = .ok v w/\RepS g w (Mof X g own) res v:=by
 rcases hres with ⟨us,hus,rfl⟩|⟨t,h1,rfl⟩|⟨c1,c2,cs,h1,rfl⟩
 ·obtain⟨l,q1,q2⟩:=w1q (P:=P) h fc.results.toList us hus
  have hm:(fc.results.mapM (resF a.tmps)).run P w = .ok l.toArray w:=by
   rw [Array.mapM_eq_mapM_toList];simp [q1]
  rw [z84];have hl:l.length=us.length:=q2.1
  cases hus:us with
  | nil =>
   subst hus;have:l=[]:=List.eq_nil_of_length_eq_zero hl;subst this;exact⟨.tuple #[],by simp [hm],[],rfl,q2⟩
  | cons u us' =>
   cases us' with
   | nil =>
    subst hus;obtain⟨x,hx⟩:∃ x,l=[x]:=List.length_eq_one_iff.1 hl;subst hx;refine⟨x,by simp [hm],?_⟩;obtain⟨y,h1,h2⟩:=q2.2 0 u rfl;simp at h1;subst h1;exact h2
   | cons u2 us2 =>
    subst hus;refine⟨.tuple l.toArray,?_,l,rfl,q2⟩;have:¬ l.length=1:=by simp at hl;omega
    simp [hm,this]
 ·have hm:(fc.results.mapM (resF a.tmps)).run P w = .ok #[a.tmps.getD t undef] w:=by
   rw [Array.mapM_eq_mapM_toList,h1];simp [resF]
  rw [z84];exact⟨a.tmps.getD t undef,by simp [hm],h.fr t⟩
 ·obtain⟨l,q1,q2,q3⟩:=w1r (P:=P) h fc.results.toList _ h1
  have hm:(fc.results.mapM (resF a.tmps)).run P w = .ok l.toArray w:=by
   rw [Array.mapM_eq_mapM_toList];simp [q1]
  rw [z84];have hl:¬ l.length=1:=by simp at q2;omega
  refine⟨.tuple l.toArray,by simp [hm,hl],l,rfl,q2,λj c hj=>?_⟩;obtain⟨x,r1,r2⟩:=q3 j c hj;exact⟨x,r1,r2,λh=>by cases h⟩

theorem ui {P:Program} {fn:Nat} {fc:Func} {c:Code} {args:List Slot} {pre post:List (Nat×AObj)} {res:Slot} {N:Nat} {rs:List ResultVar} (hok:uv P fn=true) (hf:P.funcs[fn]?=some fc) (hb:fc.body=some c) (hnt:fc.ntmps=N) (hrs:fc.results.toList=rs) (hn:Nat.ble args.length N=true)
  (h:∀ (X:Ctx) (A:An),X.N=N->AWP P X c (λe f own=>(match e with|.ret=>True|.normal=>True|_=>False)/\∃ lf,subF f lf/\subO own (anL A post)/\okL lf (anL A post)=true/\ResG P (frs lf) (ows (anL A post)) rs res) (λt=>args.getD t .any) (ows (anL A pre))) :
  FnG P fn args pre res post:=by
 subst hnt hrs;have hn:=Nat.le_of_ble_eq_true hn;refine⟨hok,λX0 A g w vs hw hm hvl hvs=>?_⟩;obtain⟨M0,w0,S0,N0,R0,D0⟩:=X0;simp only at hw;subst hw;refine calls_of_wp hf hb (wp_mono (wpIn_wide.1 (h ⟨M0,w0,S0,fc.ntmps,none,[]⟩ A rfl g _ w0 ?_)) ?_)
 ·refine⟨hm.kp,hm.m0,by simp;omega,rfl,λt=>?_,hm.ob,hm.sep,hm.mine,hm.fresh,hm.top⟩
  cases hs:args[t]? with
  | none =>
   have:args.getD t .any = .any:=by rw [List.getD_eq_getElem?_getD,hs];rfl
   rw [this];trivial
  | some u =>
   have e1:args.getD t .any=u:=by rw [List.getD_eq_getElem?_getD,hs];rfl
   rw [e1];obtain⟨x,hx',hp⟩:=hvs t u hs;have hlt:t < vs.size:=(Array.getElem?_eq_some_iff.1 hx').1
   have e2:(vs++Array.replicate (fc.ntmps-vs.size) undef).getD t undef=x:=by
    rw [Array.getD_eq_getD_getElem?,Array.getElem?_append_left hlt,hx'];rfl
   show RepS g w0 _ u ((vs++Array.replicate (fc.ntmps-vs.size) undef).getD t undef);rw [e2];exact hp
 ·rintro e a' w' ⟨f',own',g',hr,he,lf,hs1,hs2,hok2,hres⟩;obtain⟨g'',hr2⟩:=hr.less lf (anL A post) hs1 hs2 hok2;obtain⟨v,hv1,hv2⟩:=x4c (P:=P) hr2 fc res hres
  have hfin:a'.defers=[]/\∃ v,(results fc a'.tmps).run P w' = .ok v w'/\∃ v_1 g',Ending.returned v = .returned v_1/\Mem ⟨M0,w0,S0,N0,R0,D0⟩ (ows (anL A post)) g' w'/\RepS g' w' (Mof ⟨M0,w0,S0,N0,R0,D0⟩ g' (ows (anL A post))) res v_1:=
   ⟨hr2.df,v,hv1,v,g'',rfl,⟨hr2.kp,hr2.m0,hr2.ob,hr2.sep,hr2.mine,hr2.fresh,hr2.top⟩,hv2⟩
  cases e with
  | normal=>exact hfin
  | ret=>exact hfin
  | exit _=>exact he.elim
  | goto _=>exact he.elim
  | panic _=>exact he.elim
  | outgrown=>exact he.elim
end Go.Proofs.YtbpedjpoikmbjaaGreatDoor
namespace Go.Proofs.YtbpedjpoikmbjaaGreatDoor
open Go.RowKit
set_option linter.unusedVariables false

def rnC (σ:Nat->Nat):Cmp->Cmp
 | .dat v=>.dat v
 | .ptr id off=>.ptr (σ id) off
 | .row id n=>.row (σ id) n
 | .mp id=>.mp (σ id)
def rnS (σ:Nat->Nat):Slot->Slot
 | .any=>.any
 | .dat v=>.dat v
 | .ptr id off=>.ptr (σ id) off
 | .row id n=>.row (σ id) n
 | .rptr id n size k c=>.rptr (σ id) n size k c
 | .mp id=>.mp (σ id)
 | .rsub id n size k=>.rsub (σ id) n size k
 | .nptr id=>.nptr (σ id)
 | .dr id u=>.dr (σ id) u
 | .comp tup cs=>.comp tup (cs.map (rnC σ))
def rnO (σ:Nat->Nat):AObj->AObj
 | .box an t cs=>.box an t (cs.map (rnS σ))
 | o=>o
def rn:List (Nat×Nat)->Nat->Nat
 | [],i=>i
 | (a,b)::l,i=>cond (Nat.beq i a) b (rn l i)
def matO (σ:Nat->Nat):AObj->AObj->Prop
 | .box (some _) t cs,.box _ t' cs'=>t=t'/\cs'=cs.map (rnS σ)
 | .opq (some _) R,.opq _ R'=>R=R'
 | .row e size es,.row e' size' es'=>e=e'/\size=size'/\es=es'
 | .rowA _ e size es,.row e' size' es'=>e=e'/\size=size'/\es=es'
 | .rowA _ e size es,.rowA _ e' size' es'=>e=e'/\size=size'/\es=es'
 | _,_=>False
def outO (σ:Nat->Nat):AObj->AObj->AObj
 | .box an _ _,.box _ t cs=>.box an t (cs.map (rnS σ))
 | .opq an _,.opq _ R=>.opq an R
 | .row _ _ _,.rowA _ e size es=>.row e size es
 | .rowA v _ _ _,.rowA _ e size es=>.rowA v e size es
 | _,o=>rnO σ o
def wj:AObj->Option AObj->Bool
 | _,none=>true
 | .box (some _) _ _,some (.box (some _) _ _)=>true
 | .opq (some _) _,some (.opq (some _) _)=>true
 | .rowA _ _ _ es,some (.rowA _ _ _ es')=>true
 | _,_=>false
def z0w (own:Own):List Slot->Prop
 | []=>True
 | .row id n::l=>match own id with
  | some (some (.rowA _ _ _ es))=>n=es.length/\z0w own l
  | _=>z0w own l
 | _::l=>z0w own l
theorem x4e {own:Own}:∀ {cs:List Slot},z0w own cs->∀ {id n:Nat} {v:Value} {e:TypeId} {size:Nat} {es:List (List V)},Slot.row id n∈cs->own id=some (some (.rowA v e size es))->n=es.length
 | [],_,_,_,_,_,_,_,h,_=>by cases h
 | s::l,hr,id,n,v,e,size,es,h,ho=>by
  rcases List.mem_cons.1 h with h|h
  ·subst h;simp only [z0w,ho] at hr;exact hr.1
  ·have:z0w own l:=by
    cases s with
    | row i m =>
     simp only [z0w] at hr;split at hr
     ·exact hr.2
     ·exact hr
    | _=>exact hr
   exact x4e this h ho
def kg (own:Own):AObj->Option AObj->Prop
 | .rowA _ _ _ es,some (.rowA _ _ _ es')=>es'.length=es.length
 | .box _ _ _,some (.box _ _ cs)=>z0w own cs
 | _,_=>True
def newB:AObj->Bool
 | .box none _ _=>true
 | .opq none _=>true
 | .row _ _ _=>true
 | _=>false
abbrev Ent:=Nat×AObj×AObj×Option AObj
def jg (L:List Ent):List (Nat×AObj):=L.map λe=>(e.1,e.2.1)
def vk (L:List Ent) (nw:List (Nat×AObj)):List (Nat×AObj):=L.filterMap (λe=>e.2.2.2.map λo=>(e.1,o))++nw
def rdOf (σ:Nat->Nat) (L:List Ent) (nw:List (Nat×AObj)):List (Nat×Option (Option AObj)):=L.map (λe=>(σ e.1,some (some e.2.2.1)))++nw.map λp=>(σ p.1,none)
def wrOf (σ:Nat->Nat) (L:List Ent) (nw:List (Nat×AObj)):List (Nat×Option (Option AObj)):=L.map (λe=>(σ e.1,some (e.2.2.2.map (outO σ e.2.2.1))))++nw.map λp=>(σ p.1,some (some (rnO σ p.2)))
def vz (L:List Ent) (nw:List (Nat×AObj)):List Nat:=L.map (·.1)++nw.map (·.1)
def ndB:List Nat->Bool
 | []=>true
 | a::l=>!(l.any λb=>Nat.beq a b) && ndB l
theorem xe:∀ {l:List Nat},ndB l=true->l.Nodup
 | [],_=>List.nodup_nil
 | a::l,h=>by
  simp only [ndB,Bool.and_eq_true,Bool.not_eq_true',List.any_eq_false] at h;refine List.nodup_cons.2 ⟨λhm=>?_,xe h.2⟩;exact h.1 a hm (by simp)
def y26 (L:List Ent):List (Nat×AObj):=L.filterMap (λe=>e.2.2.2.map λo=>(e.1,o))
def matM (own:Own) (σ:Nat->Nat):List Ent->Prop
 | []=>True
 | (_,o,c,p)::l=>(matO σ o c/\kg own o p)/\matM own σ l
theorem x5m {own:Own} {σ:Nat->Nat}:∀ {L:List Ent},matM own σ L->∀ e,e∈L->matO σ e.2.1 e.2.2.1/\kg own e.2.1 e.2.2.2
 | [],_,e,h=>by cases h
 | _::l,h,e,he=>by
  rcases List.mem_cons.1 he with rfl|he
  ·exact h.1
  ·exact x5m h.2 e he
def matL (σ:Nat->Nat) (L:List Ent):Prop:=matM (ows (y26 L)) σ L
theorem Wm {σ:Nat->Nat} {L:List Ent} (h:matL σ L):∀ e,e∈L->matO σ e.2.1 e.2.2.1/\kg (ows (y26 L)) e.2.1 e.2.2.2:=x5m h
def argG (s t:Slot):Prop:=s=t∨(s = .dat vnil/\t = .dat (vlst []))
def z4a (f:Nat->Slot) (σ:Nat->Nat):List Operand->List Slot->Prop
 | [],[]=>True
 | x::xs,s::ss=>(argG (evS f x) (rnS σ s)∨∃ n,x = .func n/\s = .dat (vfn n []))/\z4a f σ xs ss
 | _,_=>False
theorem x1k {f:Nat->Slot} {σ:Nat->Nat} {g:Gh} {w:World} {M:Blks} {ev:Operand->Value} (hev:∀ n,ev (.func n) = .func (.func n) #[] #[]):∀ (xs:List Operand) (ss:List Slot),z4a f σ xs ss->(∀ x,x∈xs->RepS g w M (evS f x) (ev x)) ->
  xs.length=ss.length/\∀ (j:Nat) (s:Slot),ss[j]?=some s->∃ v,(xs.map ev)[j]?=some v/\RepS g w M (rnS σ s) v
 | [],[],_,_=>⟨rfl,λj s h=>by simp at h⟩
 | x::xs,s::ss,h,hx=>by
  obtain⟨h1,h2⟩:=x1k hev xs ss h.2 λy hy=>hx y (List.mem_cons_of_mem _ hy);refine⟨by simp [h1],λj s' hj=>?_⟩
  cases j with
  | zero =>
   simp at hj;subst hj;refine⟨ev x,rfl,?_⟩;rcases h.1 with (h3|⟨h3,h4⟩)|⟨n,rfl,rfl⟩
   ·rw [← h3];exact hx x (by simp)
   ·have h5:=hx x (by simp);rw [h3] at h5;rw [h4];exact z7z _ _ _ h5
   ·rw [hev n];exact⟨[],rfl,rfl,λj u hj=>by simp at hj⟩
  | succ j=>exact h2 j s' (by simpa using hj)
 | [],_::_,h,_=>h.elim
 | _::_,[],h,_=>h.elim

theorem ug:∀ {l:List (Nat×AObj)},(l.map (·.1)).Nodup->∀ {id:Nat} {o:AObj},ows l id=some (some o)↔(id,o)∈l
 | [],_,id,o=>by simp [ows,upl]
 | (k,x)::l,nd,id,o=>by
  have ih:=ug (l:=l) (List.nodup_cons.1 nd).2 (id:=id) (o:=o);have hk:k ∉ l.map (·.1):=(List.nodup_cons.1 nd).1;show cond (Nat.beq id k) (some (some x)) (ows l id)=_↔_
  by_cases h:id=k
  ·subst h;have e1:Nat.beq id id=true:=by simp
   rw [e1];simp only [cond_true,Option.some.injEq,List.mem_cons,Prod.mk.injEq,true_and];constructor
   ·intro h;exact .inl h.symm
   ·rintro (h|h)
    ·exact h.symm
    ·exact absurd (List.mem_map.2 ⟨(id,o),h,rfl⟩) hk
  ·rw [qz h];simp only [cond_false,List.mem_cons,Prod.mk.injEq,h,false_and,false_or];exact ih
theorem y3j {id:Nat}:∀ {l:List (Nat×AObj)},ows l id=none↔id ∉ l.map (·.1)
 | []=>by simp [ows,upl]
 | (k,x)::l=>by
  have ih:=y3j (id:=id) (l:=l);show cond (Nat.beq id k) (some (some x)) (ows l id)=none↔_
  by_cases h:id=k
  ·subst h;have e1:Nat.beq id id=true:=by simp
   rw [e1];simp
  ·rw [qz h];simp only [cond_false,List.map_cons,List.mem_cons,h,false_or];exact ih
theorem z4d {β:Type} (f:Nat->β):∀ (l:List (Nat×β)) (x:Nat),(x ∉ keys l/\upl f l x=f x)∨∃ q,(x,q)∈l/\upl f l x=q
 | [],x=>.inl ⟨by simp [keys],rfl⟩
 | (k,v)::l,x=>by
  by_cases h:x=k
  ·subst h;exact .inr ⟨v,by simp,by simp [upl]⟩
  ·rcases z4d f l x with ⟨h1,h2⟩|⟨q,h1,h2⟩
   ·refine .inl ⟨?_,?_⟩
    ·simp only [keys,List.map_cons,List.mem_cons,h,false_or];exact h1
    ·simp only [upl,qz h,cond_false];exact h2
   ·exact .inr ⟨q,List.mem_cons_of_mem _ h1,by simp only [upl,qz h,cond_false];exact h2⟩
theorem x5e {α:Type} {l:List (Nat×α)} (nd:(l.map (·.1)).Nodup) {k:Nat} {a b:α} (h1:(k,a)∈l) (h2:(k,b)∈l):a=b:=by
 induction l with
 | nil=>cases h1
 | cons p l ih =>
  have hk:=(List.nodup_cons.1 nd).1;have hin:∀ x,(k,x)∈l->k∈l.map (·.1):=λx h=>List.mem_map.2 ⟨_,h,rfl⟩;rcases List.mem_cons.1 h1 with e1|h1
  ·rcases List.mem_cons.1 h2 with e2|h2
   ·rw [← e1] at e2;cases e2;rfl
   ·rw [← e1] at hk;exact absurd (hin _ h2) hk
  ·rcases List.mem_cons.1 h2 with e2|h2
   ·rw [← e2] at hk;exact absurd (hin _ h1) hk
   ·exact ih (List.nodup_cons.1 nd).2 h1 h2

theorem RepS.rnIn {g g':Gh} {w:World} {M M':Blks} {σ:Nat->Nat} {own:Own} {s:Slot} {v:Value} (hM:Ext M M' w w) (hb:∀ i,vf own i=true->g'.bl i=g.bl (σ i)/\∀ n,g'.sv i n=g.sv (σ i) n) (ok:okS own s=true) (h:RepS g w M (rnS σ s) v):RepS g' w M' s v:=by
 cases s with
 | any=>trivial
 | dat u=>exact u.keep hM h
 | ptr id off=>obtain⟨b,h1,h2⟩:=h;exact⟨b,by rw [(hb id ok).1];exact h1,h2⟩
 | row id n=>show g'.sv id n=_;rw [(hb id ok).2];exact h
 | rptr id n size k c=>obtain⟨b,cap,h1,h2⟩:=h;exact⟨b,cap,by rw [(hb id ok).2];exact h1,h2⟩
 | mp id=>obtain⟨b,h1,h2⟩:=h;exact⟨b,by rw [(hb id ok).1];exact h1,h2⟩
 | rsub id n size k=>obtain⟨b,cap,h1,h2⟩:=h;exact⟨b,cap,by rw [(hb id ok).2];exact h1,h2⟩
 | nptr id =>
  rcases h with h|⟨b,h1,h2⟩
  ·exact .inl h
  ·exact .inr ⟨b,by rw [(hb id ok).1];exact h1,h2⟩
 | dr id u=>obtain⟨b,h1,h2⟩:=h;exact⟨b,by rw [(hb id ok).1];exact h1,(u b).keep hM h2⟩
 | comp tup cs =>
  refine ub.unmap (rnC σ) h λc x hc hx=>?_;have ok':okC own c=true:=(List.all_eq_true.1 ok) c hc
  cases c with
  | dat u=>exact u.keep hM hx
  | ptr id off=>obtain⟨b,h1,h2⟩:=hx;exact⟨b,by rw [(hb id ok').1];exact h1,h2⟩
  | row id n=>show g'.sv id n=_;rw [(hb id ok').2];exact hx
  | mp id=>obtain⟨b,h1,h2⟩:=hx;exact⟨b,by rw [(hb id ok').1];exact h1,h2⟩
def isB:Option (Option AObj)->Bool
 | some (some (.box _ _ _))=>true
 | some (some (.opq _ _))=>true
 | _=>false
def isR:Option (Option AObj)->Bool
 | some (some (.row _ _ _))=>true
 | _=>false
def okTC (own:Own):Cmp->Bool
 | .dat _=>true
 | .ptr id _=>isB (own id)
 | .row id _=>isR (own id)
 | .mp id=>isB (own id)
def okT (own:Own):Slot->Bool
 | .any=>true
 | .dat _=>true
 | .ptr id _=>isB (own id)
 | .row id _=>isR (own id)
 | .rptr id _ _ _ _=>isR (own id)
 | .mp id=>isB (own id)
 | .rsub id _ _ _=>isR (own id)
 | .nptr id=>isB (own id)
 | .dr id _=>isB (own id)
 | .comp _ cs=>cs.all (okTC own)
def isA:Option (Option AObj)->Bool
 | some (some (.rowA _ _ _ _))=>true
 | _=>false
def okT2 (own:Own):Slot->Bool
 | .row id _=>isR (own id) || isA (own id)
 | s=>okT own s
def okQ (own:Own):AObj->Bool
 | .box _ _ cs=>cs.all (okT own)
 | _=>true
def okP (own:Own):AObj->Bool
 | .box _ _ cs=>cs.all (okT2 own)
 | .row _ _ _=>true
 | .opq _ _=>true
 | .rowA _ _ _ _=>true
theorem RepS.rnOut {g g':Gh} {w:World} {M M':Blks} {σ:Nat->Nat} {own:Own} {s:Slot} {v:Value} (hM:Ext M M' w w) (hb1:∀ i,isB (own i)=true->∀ b,g.bl i=some b->g'.bl (σ i)=some b) (hb2:∀ i,isR (own i)=true->∀ n v,g.sv i n=some v->g'.sv (σ i) n=some v) (ok:okT own s=true) (h:RepS g w M s v):RepS g' w M' (rnS σ s) v:=by
 cases s with
 | any=>trivial
 | dat u=>exact u.keep hM h
 | ptr id off=>obtain⟨b,h1,h2⟩:=h;exact⟨b,hb1 id ok _ h1,h2⟩
 | row id n=>exact hb2 id ok _ _ h
 | rptr id n size k c=>obtain⟨b,cap,h1,h2⟩:=h;exact⟨b,cap,hb2 id ok _ _ h1,h2⟩
 | mp id=>obtain⟨b,h1,h2⟩:=h;exact⟨b,hb1 id ok _ h1,h2⟩
 | rsub id n size k=>obtain⟨b,cap,h1,h2⟩:=h;exact⟨b,cap,hb2 id ok _ _ h1,h2⟩
 | nptr id =>
  rcases h with h|⟨b,h1,h2⟩
  ·exact .inl h
  ·exact .inr ⟨b,hb1 id ok _ h1,h2⟩
 | dr id u=>obtain⟨b,h1,h2⟩:=h;exact⟨b,hb1 id ok _ h1,(u b).keep hM h2⟩
 | comp tup cs =>
  refine ub.map (rnC σ) h λc x hc hx=>?_;have ok':okTC own c=true:=(List.all_eq_true.1 ok) c hc
  cases c with
  | dat u=>exact u.keep hM hx
  | ptr id off=>obtain⟨b,h1,h2⟩:=hx;exact⟨b,hb1 id ok' _ h1,h2⟩
  | row id n=>exact hb2 id ok' _ _ hx
  | mp id=>obtain⟨b,h1,h2⟩:=hx;exact⟨b,hb1 id ok' _ h1,h2⟩

theorem RepS.rnOutA {g g':Gh} {w:World} {M M':Blks} {σ:Nat->Nat} {own:Own} {s:Slot} {v:Value} (hM:Ext M M' w w) (hb1:∀ i,isB (own i)=true->∀ b,g.bl i=some b->g'.bl (σ i)=some b) (hb2:∀ i,isR (own i)=true->∀ n v,g.sv i n=some v->g'.sv (σ i) n=some v)
  (hb3:∀ i v e size es,own i=some (some (.rowA v e size es))->∀ x,g.sv i es.length=some x->g'.sv (σ i) es.length=some x) (hn:∀ id n v e size es,s = .row id n->own id=some (some (.rowA v e size es))->n=es.length) (ok:okT2 own s=true) (h:RepS g w M s v):RepS g' w M' (rnS σ s) v:=by
 cases s with
 | row id n =>
  cases hi:isR (own id)
  ·have hA:isA (own id)=true:=by simpa [okT2,hi] using ok
   cases ho:own id with
   | none=>rw [ho] at hA;cases hA
   | some oo =>
    cases oo with
    | none=>rw [ho] at hA;cases hA
    | some o =>
     cases o with
     | rowA u e size es =>
      have:=hn id n u e size es rfl ho;subst this;exact hb3 id u e size es ho v h
     | box _ _ _=>rw [ho] at hA;cases hA
     | opq _ _=>rw [ho] at hA;cases hA
     | row _ _ _=>rw [ho] at hA;cases hA
  ·exact hb2 id hi n v h
 | any=>exact RepS.rnOut hM hb1 hb2 ok h
 | dat u=>exact RepS.rnOut hM hb1 hb2 ok h
 | ptr id off=>exact RepS.rnOut hM hb1 hb2 ok h
 | rptr id n size k c=>exact RepS.rnOut hM hb1 hb2 ok h
 | mp id=>exact RepS.rnOut hM hb1 hb2 ok h
 | rsub id n size k=>exact RepS.rnOut hM hb1 hb2 ok h
 | nptr id=>exact RepS.rnOut hM hb1 hb2 ok h
 | dr id u=>exact RepS.rnOut hM hb1 hb2 ok h
 | comp tup cs=>exact RepS.rnOut hM hb1 hb2 ok h

theorem RepO.rnIn {g g':Gh} {w:World} {M M':Blks} {σ:Nat->Nat} {own:Own} {i:Nat} {o c:AObj} {A:An} (hM:Ext M M' w w) (hb:∀ i,vf own i=true->g'.bl i=g.bl (σ i)/\∀ n,g'.sv i n=g.sv (σ i) n)
  (hi:vf own i=true) (ok:okO own o=true) (hm:matO σ o c) (hA:∀ b,g.bl (σ i)=some b->A.bl i=b) (hV:∀ v,(∃ e size es,c = .row e size es/\g.sv (σ i) es.length=some v)∨(∃ e size es,c = .rowA v e size es)->A.vl i=v) (h:RepO g w M (σ i) c) :
  RepO g' w M' i (anO A i o)/\obk g' i (anO A i o)=obk g (σ i) c:=by
 obtain⟨b1,b2⟩:=hb i hi
 cases o with
 | box an t cs =>
  cases an with
  | none=>cases c <;> exact hm.elim
  | some q =>
   cases c with
   | box an' t' cs' =>
    obtain⟨rfl,rfl⟩:=hm;obtain⟨b,l,h1,h0,h2,h3,h4⟩:=h;refine⟨⟨b,l,by rw [b1];exact h1,λq hq=>by cases hq;exact hA b h1,h2,by simpa using h3,λj s hs=>?_⟩,b1⟩;obtain⟨x,g1,g2,g3⟩:=h4 j (rnS σ s) (by rw [List.getElem?_map,hs];rfl);exact⟨x,g1,g2.rnIn hM hb ((List.all_eq_true.1 ok) s (List.mem_of_getElem? hs)),g3⟩
   | row _ _ _=>exact hm.elim
   | opq _ _=>exact hm.elim
   | rowA _ _ _ _=>exact hm.elim
 | row e size es =>
  cases c with
  | row e' size' es' =>
   obtain⟨rfl,rfl,rfl⟩:=hm;obtain⟨v,xs,h1,h2,h3,h4,h5⟩:=h;refine⟨⟨v,xs,by rw [b2];exact h1,h2,h3,h4,λk c el u hk hc=>?_⟩,by simp only [anO,obk,b2]⟩;obtain⟨x,g1,g2,g3⟩:=h5 k c el u hk hc;exact⟨x,g1,u.keep hM g2,g3⟩
  | box _ _ _=>exact hm.elim
  | opq _ _=>exact hm.elim
  | rowA _ _ _ _=>exact hm.elim
 | opq an R =>
  cases an with
  | none=>cases c <;> exact hm.elim
  | some q =>
   cases c with
   | opq an' R' =>
    obtain rfl:R=R':=hm;obtain⟨b,o,h1,h0,h2,h3⟩:=h;exact⟨⟨b,o,by rw [b1];exact h1,λq hq=>by cases hq;exact hA b h1,h2,h3⟩,b1⟩
   | row _ _ _=>exact hm.elim
   | box _ _ _=>exact hm.elim
   | rowA _ _ _ _=>exact hm.elim
 | rowA v0 e size es =>
  cases c with
  | row e' size' es' =>
   obtain⟨rfl,rfl,rfl⟩:=hm;obtain⟨v,xs,h1,h2,h3,h4,h5⟩:=h;have hv:=hV v (.inl ⟨_,_,_,rfl,h1⟩);refine⟨⟨xs,by rw [b2,hv];exact h1,by rw [hv];exact h2,h3,h4,λk c el u hk hc=>?_⟩,by simp only [anO,obk,hv,h1,Option.bind_some]⟩;obtain⟨x,g1,g2,g3⟩:=h5 k c el u hk hc;exact⟨x,g1,u.keep hM g2,g3⟩
  | rowA v e' size' es' =>
   obtain⟨rfl,rfl,rfl⟩:=hm;obtain⟨xs,h1,h2,h3,h4,h5⟩:=h;have hv:=hV v (.inr ⟨_,_,_,rfl⟩);refine⟨⟨xs,by rw [b2,hv];exact h1,by rw [hv];exact h2,h3,h4,λk c el u hk hc=>?_⟩,by simp only [anO,obk,hv]⟩;obtain⟨x,g1,g2,g3⟩:=h5 k c el u hk hc;exact⟨x,g1,u.keep hM g2,g3⟩
  | box _ _ _=>exact hm.elim
  | opq _ _=>exact hm.elim

theorem RepO.rnStay {g G:Gh} {w w0:World} {M M' M0:Blks} {σ:Nat->Nat} {own:Own} {i:Nat} {o o' c:AObj} {A:An} (hM:Ext M M' w w) (hb1:∀ i,isB (own i)=true->∀ b,g.bl i=some b->G.bl (σ i)=some b) (hb2:∀ i,isR (own i)=true->∀ n v,g.sv i n=some v->G.sv (σ i) n=some v)
  (hb3:∀ i v e size es,own i=some (some (.rowA v e size es))->∀ x,g.sv i es.length=some x->G.sv (σ i) es.length=some x) {own1:Own} (ho1:∀ i v e size es,own i=some (some (.rowA v e size es))->own1 i=own i)
  (hi:own i=some (some o')) (hsp:kg own1 o (some o')) (ok:okP own o'=true) (hm:matO σ o c) (hs:wj o (some o')=true) (hA:∀ b,G.bl (σ i)=some b->A.bl i=b) (hV:∀ v,(∃ e size es,c = .row e size es/\G.sv (σ i) es.length=some v)∨(∃ e size es,c = .rowA v e size es)->A.vl i=v) (h0:RepO G w0 M0 (σ i) c) (h:RepO g w M i (anO A i o')) :
  RepO G w M' (σ i) (outO σ c o')/\obk G (σ i) (outO σ c o')=obk g i (anO A i o'):=by
 cases o with
 | box an t cs =>
  cases an with
  | none=>cases o' <;> simp [wj] at hs
  | some q =>
   cases o' with
   | box an' t' cs' =>
    cases an' with
    | none=>simp [wj] at hs
    | some q' =>
     cases c with
     | box an'' t'' cs'' =>
      obtain⟨b,l,h1,h00,h2,h3,h4⟩:=h;obtain⟨b',l',r1,r0,_⟩:=h0;have hbb:b'=b:=by have:=hb1 i (by rw [hi];rfl) b h1;rw [this] at r1;cases r1;rfl
      subst hbb;refine⟨⟨b',l,hb1 i (by rw [hi];rfl) b' h1,r0,h2,by simpa using h3,λj s hsj=>?_⟩,by simp only [outO,anO,obk];rw [hb1 i (by rw [hi];rfl) b' h1,h1]⟩;rw [List.getElem?_map] at hsj
      cases hq:cs'[j]? with
      | none=>rw [hq] at hsj;cases hsj
      | some s' =>
       rw [hq] at hsj;cases hsj;obtain⟨x,g1,g2,g3⟩:=h4 j s' hq;exact⟨x,g1,g2.rnOutA hM hb1 hb2 hb3 (λid n v e size es hs ho=>x4e hsp (hs ▸ List.mem_of_getElem? hq) ((ho1 id v e size es ho).trans ho)) ((List.all_eq_true.1 ok) s' (List.mem_of_getElem? hq)),g3⟩
     | row _ _ _=>exact hm.elim
     | opq _ _=>exact hm.elim
     | rowA _ _ _ _=>exact hm.elim
   | row _ _ _=>simp [wj] at hs
   | opq _ _=>simp [wj] at hs
   | rowA _ _ _ _=>simp [wj] at hs
 | row e size es=>cases o' <;> simp [wj] at hs
 | opq an R =>
  cases an with
  | none=>cases o' <;> simp [wj] at hs
  | some q =>
   cases o' with
   | opq an' R' =>
    cases an' with
    | none=>simp [wj] at hs
    | some q' =>
     cases c with
     | opq an'' R'' =>
      obtain⟨b,ob,h1,h00,h2,h3⟩:=h;obtain⟨b',l',r1,r0,_⟩:=h0;have hbb:b'=b:=by have:=hb1 i (by rw [hi];rfl) b h1;rw [this] at r1;cases r1;rfl
      subst hbb;exact⟨⟨b',ob,hb1 i (by rw [hi];rfl) b' h1,r0,h2,h3⟩,by simp only [outO,anO,obk];rw [hb1 i (by rw [hi];rfl) b' h1,h1]⟩
     | row _ _ _=>exact hm.elim
     | box _ _ _=>exact hm.elim
     | rowA _ _ _ _=>exact hm.elim
   | row _ _ _=>simp [wj] at hs
   | box _ _ _=>simp [wj] at hs
   | rowA _ _ _ _=>simp [wj] at hs
 | rowA v0 e size es =>
  cases o' with
  | rowA v1 e1 x31 es1 =>
   obtain⟨xs,h1,h2,h3,h4,h5⟩:=h
   cases c with
   | row e' size' es' =>
    obtain⟨rfl,rfl,rfl⟩:=hm;obtain⟨v,ys,r1,_⟩:=h0;have hv:=hV v (.inl ⟨_,_,_,rfl,r1⟩);have hl:es1.length=es.length:=hsp;have h1':G.sv (σ i) es1.length=some (A.vl i):=by rw [hl,r1,hv]
    refine⟨⟨A.vl i,xs,h1',h2,h3,h4,λk c el u hk hc=>?_⟩,by simp only [outO,anO,obk];rw [h1'];rfl⟩;obtain⟨x,g1,g2,g3⟩:=h5 k c el u hk hc;exact⟨x,g1,u.keep hM g2,g3⟩
   | rowA v e' size' es' =>
    obtain⟨rfl,rfl,rfl⟩:=hm;obtain⟨ys,r1,_⟩:=h0;have hv:=hV v (.inr ⟨_,_,_,rfl⟩);have hl:es1.length=es.length:=hsp;rw [hv] at h1 h2;refine⟨⟨xs,by rw [hl];exact r1,h2,h3,h4,λk c el u hk hc=>?_⟩,by simp only [outO,anO,obk,hv]⟩;obtain⟨x,g1,g2,g3⟩:=h5 k c el u hk hc;exact⟨x,g1,u.keep hM g2,g3⟩
   | box _ _ _=>exact hm.elim
   | opq _ _=>exact hm.elim
  | row _ _ _=>simp [wj] at hs
  | opq _ _=>simp [wj] at hs
  | box _ _ _=>simp [wj] at hs
theorem RepO.rnNew {g G:Gh} {w:World} {M M':Blks} {σ:Nat->Nat} {own:Own} {i:Nat} {o:AObj} {A:An} (hM:Ext M M' w w) (hb1:∀ i,isB (own i)=true->∀ b,g.bl i=some b->G.bl (σ i)=some b) (hb2:∀ i,isR (own i)=true->∀ n v,g.sv i n=some v->G.sv (σ i) n=some v)
  (hi:own i=some (some o)) (ok:okQ own o=true) (hn:newB o=true) (h:RepO g w M i (anO A i o)) :
  RepO G w M' (σ i) (rnO σ o)/\obk G (σ i) (rnO σ o)=obk g i (anO A i o):=by
 cases o with
 | box an t cs =>
  cases an with
  | some q=>cases hn
  | none =>
   obtain⟨b,l,h1,h00,h2,h3,h4⟩:=h;refine⟨⟨b,l,hb1 i (by rw [hi];rfl) b h1,h00,h2,by simpa using h3,λj s hsj=>?_⟩,by simp only [rnO,anO,obk];rw [hb1 i (by rw [hi];rfl) b h1,h1]⟩;rw [List.getElem?_map] at hsj
   cases hq:cs[j]? with
   | none=>rw [hq] at hsj;cases hsj
   | some s' =>
    rw [hq] at hsj;cases hsj;obtain⟨x,g1,g2,g3⟩:=h4 j s' hq;exact⟨x,g1,g2.rnOut hM hb1 hb2 ((List.all_eq_true.1 ok) s' (List.mem_of_getElem? hq)),g3⟩
 | row e size es =>
  obtain⟨v,xs,h1,h2,h3,h4,h5⟩:=h;refine⟨⟨v,xs,hb2 i (by rw [hi];rfl) _ _ h1,h2,h3,h4,λk c el u hk hc=>?_⟩,by simp only [rnO,anO,obk];rw [hb2 i (by rw [hi];rfl) _ _ h1,h1]⟩;obtain⟨x,g1,g2,g3⟩:=h5 k c el u hk hc;exact⟨x,g1,u.keep hM g2,g3⟩
 | opq an R =>
  cases an with
  | some q=>cases hn
  | none =>
   obtain⟨b,ob,h1,h00,h2,h3⟩:=h;exact⟨⟨b,ob,hb1 i (by rw [hi];rfl) b h1,h00,h2,h3⟩,by simp only [rnO,anO,obk];rw [hb1 i (by rw [hi];rfl) b h1,h1]⟩
 | rowA _ _ _ _=>cases hn
end Go.Proofs.YtbpedjpoikmbjaaGreatDoor
namespace Go.Proofs.YtbpedjpoikmbjaaGreatDoor
open Go.RowKit
set_option linter.unusedVariables false

theorem x6s {σ:Nat->Nat}:∀ {l:List Nat},(l.map σ).Nodup->∀ i j,i∈l->j∈l->σ i=σ j->i=j
 | [],_,i,j,h,_,_=>by cases h
 | a::l,nd,i,j,hi,hj,h=>by
  have h1:=List.nodup_cons.1 nd;rcases List.mem_cons.1 hi with ei|hi'
  ·rcases List.mem_cons.1 hj with ej|hj'
   ·rw [ei,ej]
   ·exact absurd (List.mem_map.2 ⟨j,hj',by rw [← h,ei]⟩) h1.1
  ·rcases List.mem_cons.1 hj with ej|hj'
   ·exact absurd (List.mem_map.2 ⟨i,hi',by rw [h,ej]⟩) h1.1
   ·exact x6s h1.2 i j hi' hj' h
theorem x74 {A:An} {l:List (Nat×AObj)} {i:Nat} {o:AObj}:(i,o)∈anL A l↔∃ p,(i,p)∈l/\o=anO A i p:=by
 rw [x75,List.mem_map];constructor
 ·rintro⟨⟨j,p⟩,h1,h2⟩;cases h2;exact⟨p,h1,rfl⟩
 ·rintro⟨p,h1,rfl⟩;exact⟨(i,p),h1,rfl⟩
theorem x1o (A:An) (l:List (Nat×AObj)):(anL A l).map (·.1)=l.map (·.1):=by
 rw [x75,List.map_map];rfl
theorem z87 {L:List Ent} {i:Nat} {o:AObj}:(i,o)∈jg L↔∃ c p,(i,o,c,p)∈L:=by
 unfold jg;rw [List.mem_map];constructor
 ·rintro⟨⟨i',o',c,p⟩,h1,h2⟩;cases h2;exact⟨c,p,h1⟩
 ·rintro⟨c,p,h⟩;exact⟨_,h,rfl⟩
theorem z2f {L:List Ent} {nw:List (Nat×AObj)} {i:Nat} {o:AObj}:(i,o)∈vk L nw↔(∃ q c,(i,q,c,some o)∈L)∨(i,o)∈nw:=by
 unfold vk;rw [List.mem_append,List.mem_filterMap];constructor
 ·rintro (⟨⟨i',o',c,p⟩,h1,h2⟩|h)
  ·cases p with
   | none=>cases h2
   | some p=>cases h2;exact .inl ⟨o',c,h1⟩
  ·exact .inr h
 ·rintro (⟨q,c,h⟩|h)
  ·exact .inl ⟨_,h,rfl⟩
  ·exact .inr h
theorem x4u (L:List Ent):(jg L).map (·.1)=L.map (·.1):=by unfold jg;rw [List.map_map];rfl
theorem w2b {L:List Ent} {nw:List (Nat×AObj)} (nd:(vz L nw).Nodup):((vk L nw).map (·.1)).Nodup:=by
 refine List.Nodup.sublist ?_ nd;unfold vk vz;rw [List.map_append];refine List.Sublist.append ?_ (List.Sublist.refl _)
 induction L with
 | nil=>exact List.Sublist.refl _
 | cons e L ih =>
  obtain⟨i,o,c,p⟩:=e
  have ih':=ih (by
   unfold vz at nd ⊢;simp only [List.map_cons,List.cons_append] at nd
   exact (List.nodup_cons.1 nd).2)
  cases p with
  | none=>exact List.Sublist.cons _ ih'
  | some q=>exact List.Sublist.cons_cons _ ih'
theorem Qn {L:List Ent} {nw:List (Nat×AObj)} {i:Nat}:i∈vz L nw↔(∃ o c p,(i,o,c,p)∈L)∨∃ o,(i,o)∈nw:=by
 unfold vz;rw [List.mem_append,List.mem_map,List.mem_map];constructor
 ·rintro (⟨⟨i',o,c,p⟩,h,rfl⟩|⟨⟨i',o⟩,h,rfl⟩)
  ·exact .inl ⟨o,c,p,h⟩
  ·exact .inr ⟨o,h⟩
 ·rintro (⟨o,c,p,h⟩|⟨o,h⟩)
  ·exact .inl ⟨_,h,rfl⟩
  ·exact .inr ⟨_,h,rfl⟩
theorem z4b (σ:Nat->Nat) (L:List Ent) (nw:List (Nat×AObj)):keys (wrOf σ L nw)=(vz L nw).map σ:=by
 unfold keys wrOf vz;simp only [List.map_append,List.map_map];rfl
theorem x2a {σ:Nat->Nat} {L:List Ent} {nw:List (Nat×AObj)} {k:Nat} {q:Option (Option AObj)}:(k,q)∈wrOf σ L nw↔(∃ i o c p,(i,o,c,p)∈L/\k=σ i/\q=some (p.map (outO σ c)))∨∃ i o,(i,o)∈nw/\k=σ i/\q=some (some (rnO σ o)):=by
 unfold wrOf;rw [List.mem_append,List.mem_map,List.mem_map];constructor
 ·rintro (⟨⟨i,o,c,p⟩,h,h2⟩|⟨⟨i,o⟩,h,h2⟩)
  ·cases h2;exact .inl ⟨i,o,c,p,h,rfl,rfl⟩
  ·cases h2;exact .inr ⟨i,o,h,rfl,rfl⟩
 ·rintro (⟨i,o,c,p,h,rfl,rfl⟩|⟨i,o,h,rfl,rfl⟩)
  ·exact .inl ⟨_,h,rfl⟩
  ·exact .inr ⟨_,h,rfl⟩
theorem w3f {L:List Ent} {nw:List (Nat×AObj)} (nd:(vz L nw).Nodup) {i:Nat} {o c:AObj} {p:Option AObj} {o':AObj} (h1:(i,o,c,p)∈L) (h2:(i,o')∈nw):False:=by
 unfold vz at nd;have:=(List.nodup_append.1 nd).2.2 i (List.mem_map.2 ⟨_,h1,rfl⟩) i (List.mem_map.2 ⟨_,h2,rfl⟩);exact this rfl

section
variable {P:Program} {f:Nat->Slot} {dst:Option Tmp} {ty:TypeId} {pos:String} {af:Array Edge} {gd:Option (Nat×Bool)}
theorem x3r {o:Oper} {fn:Nat} {args:List Slot} {res:Slot} (σ:Nat->Nat) (L:List Ent) (nw:List (Nat×AObj)) (hF:FnG P fn args (jg L) res (vk L nw))
  (hE:∀ (g:Gh) (a:Act) (w:World) (M:Blks),(∀ y,y∈o.op.operands->RepS g w M (evS f y) (a.eval y))->∃ vs:Array Value,(execOp a.eval o).run P w = .ok (.enter fn vs) w/\vs.size=args.length/\∀ (j:Nat) (s:Slot),args[j]?=some s->∃ v,vs[j]?=some v/\RepS g w M (rnS σ s) v)
  (hm:matL σ L)
  (hnd:ndB (vz L nw)=true) (hnd2:ndB ((vz L nw).map σ)=true) (hst:L.all (λe=>wj e.2.1 e.2.2.2)=true) (hnw:nw.all (λp=>newB p.2 && okQ (ows (vk L nw)) p.2)=true) (hc1:(args.all (okS (ows (jg L))) && (jg L).all λp=>okO (ows (jg L)) p.2)=true) (hc2:(okT (ows (vk L nw)) res && (vk L nw).all λp=>okP (ows (vk L nw)) p.2)=true) :
  Stp P o f ⟨false,rdOf σ L nw,wrOf σ L nw,rnS σ res⟩:=by
 intro X f' own g a w Q hr hd hx hrd K hK;have nd:=xe hnd;have nd2:=xe hnd2;have hinj:=x6s nd2;have ndPre:((jg L).map (·.1)).Nodup:=by rw [x4u];unfold vz at nd;exact (List.nodup_append.1 nd).1
 have ndPost:=w2b nd;have hown:∀ i o c p,(i,o,c,p)∈L->own (σ i)=some (some c):=λi o c p h=>hrd (σ i,some (some c)) (by unfold rdOf;exact List.mem_append.2 (.inl (List.mem_map.2 ⟨_,h,rfl⟩)));have hnone:∀ i o,(i,o)∈nw->own (σ i)=none:=λi o h=>hrd (σ i,none) (by unfold rdOf;exact List.mem_append.2 (.inr (List.mem_map.2 ⟨_,h,rfl⟩)))
 let B:Nat->Prop:=λb=>∃ i o c p,(i,o,c,p)∈L/\obk g (σ i) c=some b
 let S0:List Nat:=L.filterMap λe=>obk g (σ e.1) e.2.2.1
 have hS0:∀ b,b∈S0↔B b:=λb=>by
  simp only [S0,List.mem_filterMap,B];constructor
  ·rintro⟨⟨i,o,c,p⟩,h1,h2⟩;exact⟨i,o,c,p,h1,h2⟩
  ·rintro⟨i,o,c,p,h1,h2⟩;exact⟨_,h1,h2⟩
 let M:Blks:=Mof X g own
 have hBM:∀ b,B b->M b:=λb ⟨i,o,c,p,h1,h2⟩=>.inr ⟨σ i,c,hown i o c p h1,h2⟩
 let X':Ctx:=⟨λb=>M b/\¬ B b,w,S0,0,none,[]⟩
 let g':Gh:=⟨λi=>if i∈L.map (·.1) then g.bl (σ i) else none,λi n=>if i∈L.map (·.1) then g.sv (σ i) n else none⟩
 let A:An:=⟨λi=>(g.bl (σ i)).getD 0,λi=>match own (σ i) with|some (some (.row _ _ es))=>(g.sv (σ i) es.length).getD undef|some (some (.rowA v _ _ _))=>v|_=>undef⟩
 have hA:∀ i b,g.bl (σ i)=some b->A.bl i=b:=λi b h=>by simp only [A,h,Option.getD_some]
 have hV:∀ i o c p,(i,o,c,p)∈L->∀ v,(∃ e size es,c = .row e size es/\g.sv (σ i) es.length=some v)∨(∃ e size es,c = .rowA v e size es)->A.vl i=v:=by
  intro i o c p h v hv;rcases hv with ⟨e,size,es,rfl,hs⟩|⟨e,size,es,rfl⟩
  ·simp only [A,hown i o _ p h,hs,Option.getD_some]
  ·simp only [A,hown i o _ p h]
 have inL:∀ i o c p,(i,o,c,p)∈L->i∈L.map (·.1):=λi o c p h=>List.mem_map.2 ⟨_,h,rfl⟩
 have hliv:∀ i,vf (ows (jg L)) i=true->i∈L.map (·.1):=λi h=>by
  obtain⟨o,ho⟩:=uh h;obtain⟨c,p,h1⟩:=z87.1 ((ug ndPre).1 ho);exact inL i o c p h1
 have hg':∀ i,vf (ows (jg L)) i=true->g'.bl i=g.bl (σ i)/\∀ n,g'.sv i n=g.sv (σ i) n:=λi h=>⟨if_pos (hliv i h),λn=>if_pos (hliv i h)⟩
 have hlive:∀ i o c p,(i,o,c,p)∈L->vf (ows (jg L)) i=true:=λi o c p h=>by
  unfold vf;rw [(ug ndPre).2 (z87.2 ⟨c,p,h⟩)]
 have hc1':=Bool.and_eq_true_iff.1 hc1;have hc2':=Bool.and_eq_true_iff.1 hc2;have hokpre:∀ i o c p,(i,o,c,p)∈L->okO (ows (jg L)) o=true:=λi o c p h=>(List.all_eq_true.1 hc1'.2) (i,o) (z87.2 ⟨c,p,h⟩)
 have hin:∀ i o c p,(i,o,c,p)∈L->∀ M',Ext M M' w w->RepO g' w M' i (anO A i o)/\obk g' i (anO A i o)=obk g (σ i) c:=λi o c p h M' he =>
  RepO.rnIn he hg' (hlive i o c p h) (hokpre i o c p h) (Wm hm _ h).1 (hA i) (hV i o c p h) (hr.ob (σ i) c (hown i o c p h))
 have hMM0:Ext M M w w:=⟨Nat.le_refl _,λ_ _ _ _=>rfl,λ_ _ h=>h⟩
 have hpre:∀ i o,ows (anL A (jg L)) i=some (some o)↔∃ q c p,(i,q,c,p)∈L/\o=anO A i q:=λi o=>by
  rw [ug (by rw [x1o];exact ndPre),x74];constructor
  ·rintro⟨q,h1,h2⟩;obtain⟨c,p,h3⟩:=z87.1 h1;exact⟨q,c,p,h3,h2⟩
  ·rintro⟨q,c,p,h1,h2⟩;exact⟨q,z87.2 ⟨c,p,h1⟩,h2⟩
 have hMM:∀ b,Mof X' g' (ows (anL A (jg L))) b->M b:=λb hb=>by
  rcases hb with hb|⟨i,o,h1,h2⟩
  ·exact hb.1
  ·obtain⟨q,c,p,h3,rfl⟩:=(hpre i o).1 h1;rw [(hin i q c p h3 M hMM0).2] at h2;exact .inr ⟨σ i,c,hown i q c p h3,h2⟩
 have heM:Ext M (Mof X' g' (ows (anL A (jg L)))) w w:=⟨Nat.le_refl _,λ_ _ _ _=>rfl,λb _ h=>hMM b h⟩
 have hmem:Mem X' (ows (anL A (jg L))) g' w:=by
  refine⟨Kp.refl _ _,⟨λb hb=>⟨hr.mlt.1 b hb.1,λh=>hb.2 ((hS0 b).1 h)⟩,hr.mlt.2.1,λb hb=>⟨λh=>hr.mlt.2.2 b hb h.1,λh=>hr.mlt.2.2 b hb (hBM b ((hS0 b).1 h))⟩⟩,λi o ho=>?_,λi i' o o' b h1 h2 h3 h4=>?_,λi o b h1 h2=>?_,λi hi=>?_,λi e size es h1 k hk=>?_⟩
  ·obtain⟨q,c,p,h3,rfl⟩:=(hpre i o).1 ho;exact (hin i q c p h3 _ heM).1
  ·obtain⟨q,c,p,r1,rfl⟩:=(hpre i o).1 h1;obtain⟨q',c',p',r2,rfl⟩:=(hpre i' o').1 h2;rw [(hin i q c p r1 M hMM0).2] at h3;rw [(hin i' q' c' p' r2 M hMM0).2] at h4;exact hinj i i' (Qn.2 (.inl ⟨q,c,p,r1⟩)) (Qn.2 (.inl ⟨q',c',p',r2⟩)) (hr.sep _ _ _ _ b (hown i q c p r1) (hown i' q' c' p' r2) h3 h4)
  ·obtain⟨q,c,p,r1,rfl⟩:=(hpre i o).1 h1;rw [(hin i q c p r1 M hMM0).2] at h2;exact .inl ((hS0 b).2 ⟨i,q,c,p,r1,h2⟩)
  ·have hn:i ∉ L.map (·.1):=by
    have:=y3j.1 hi;rw [x1o,x4u] at this;exact this
   exact⟨if_neg hn,λn=>if_neg hn⟩
  ·obtain⟨q,c,p,r1,r2⟩:=(hpre i _).1 h1;have hmt:=(Wm hm _ r1).1;have hbl:=(hg' i (hlive i q c p r1)).2
   cases q with
   | row e' size' es' =>
    cases r2
    cases c with
    | row e2 size2 es2 =>
     obtain⟨rfl,rfl,rfl⟩:=hmt;rw [hbl];exact hr.top (σ i) _ _ _ (hown i _ _ p r1) k hk
    | box _ _ _=>exact hmt.elim
    | opq _ _=>exact hmt.elim
    | rowA _ _ _ _=>exact hmt.elim
   | box an t cs=>cases an <;> cases r2
   | opq an R=>cases an <;> cases r2
   | rowA _ _ _ _=>cases r2
 obtain⟨vs,hrun,hlen,hargs⟩:=hE g a w M λy hy=>by
  rw [← hx y hy];exact hr.ev y
 unfold Oper.wp;rw [hrun];show Calls P fn vs w _;refine (hF.2 X' A g' w vs rfl hmem hlen (λj s hj=>?_)).mono ?_
 ·obtain⟨v,h1,h2⟩:=hargs j s hj;refine⟨v,h1,h2.rnIn heM hg' ((List.all_eq_true.1 hc1'.1) s (List.mem_of_getElem? hj))⟩
 rintro e w' ⟨v,g'',rfl,hm2,hres⟩
 let fnd:Nat->Option Nat:=λk=>(nw.map (·.1)).find? λj=>Nat.beq (σ j) k
 let G:Gh:=⟨λk=>match fnd k with|some j=>g''.bl j|none=>g.bl k,λk n=>match fnd k with|some j=>g''.sv j n|none=>g.sv k n⟩
 have hfnew:∀ i o,(i,o)∈nw->fnd (σ i)=some i:=λi o h=>by
  have hmem:i∈nw.map (·.1):=List.mem_map.2 ⟨_,h,rfl⟩
  cases hq:fnd (σ i) with
  | none =>
   have:=List.find?_eq_none.1 hq i hmem;simp at this
  | some j =>
   have h1:=List.find?_some hq;have h2:=List.mem_of_find?_eq_some hq;obtain⟨⟨j',o'⟩,h3,h4⟩:=List.mem_map.1 h2;simp only at h4;subst h4;have h5:σ j'=σ i:=Nat.eq_of_beq_eq_true h1;rw [hinj j' i (Qn.2 (.inr ⟨o',h3⟩)) (Qn.2 (.inr ⟨o,h⟩)) h5]
 have hfold:∀ k,(∀ i o,(i,o)∈nw->σ i≠k)->fnd k=none:=λk h=>by
  refine List.find?_eq_none.2 λj hj=>?_;obtain⟨⟨j',o'⟩,h3,h4⟩:=List.mem_map.1 hj;simp only at h4;subst h4;intro hb;exact h j' o' h3 (Nat.eq_of_beq_eq_true hb)
 have hGnew:∀ i o,(i,o)∈nw->G.bl (σ i)=g''.bl i/\∀ n,G.sv (σ i) n=g''.sv i n:=λi o h=>by
  simp only [G,hfnew i o h,and_self,implies_true]
 have hGold:∀ k,(∀ i o,(i,o)∈nw->σ i≠k)->G.bl k=g.bl k/\∀ n,G.sv k n=g.sv k n:=λk h=>by
  simp only [G,hfold k h,and_self,implies_true]
 have hGL:∀ i o c p,(i,o,c,p)∈L->G.bl (σ i)=g.bl (σ i)/\∀ n,G.sv (σ i) n=g.sv (σ i) n:=λi o c p h=>hGold (σ i) λj o' hj he=>by
  have:=hinj j i (Qn.2 (.inr ⟨o',hj⟩)) (Qn.2 (.inl ⟨o,c,p,h⟩)) he;subst this;exact w3f nd h hj
 have hGown:∀ k o,own k=some (some o)->G.bl k=g.bl k/\∀ n,G.sv k n=g.sv k n:=λk o h=>hGold k λi o' hi he=>by
  have:=hnone i o' hi;rw [he,h] at this;cases this
 have hle:g.le G:=by
  refine⟨λk b hb=>?_,λk n v hv=>?_⟩
  ·cases hq:fnd k with
   | none=>simp only [G,hq];exact hb
   | some j =>
    exfalso;obtain⟨⟨j',o'⟩,h3,h4⟩:=List.mem_map.1 (List.mem_of_find?_eq_some hq);simp only at h4;subst h4;have h50:=List.find?_some hq;have h5:σ j'=k:=Nat.eq_of_beq_eq_true h50;have h6:=(hr.fresh (σ j') (hnone j' o' h3)).1;rw [h5,hb] at h6;cases h6
  ·cases hq:fnd k with
   | none=>simp only [G,hq];exact hv
   | some j =>
    exfalso;obtain⟨⟨j',o'⟩,h3,h4⟩:=List.mem_map.1 (List.mem_of_find?_eq_some hq);simp only at h4;subst h4;have h50:=List.find?_some hq;have h5:σ j'=k:=Nat.eq_of_beq_eq_true h50;have h6:=(hr.fresh (σ j') (hnone j' o' h3)).2 n;rw [h5,hv] at h6;cases h6
 have hpost:∀ i o,ows (anL A (vk L nw)) i=some (some o)↔∃ p,((∃ q c,(i,q,c,some p)∈L)∨(i,p)∈nw)/\o=anO A i p:=λi o=>by
  rw [ug (by rw [x1o];exact ndPost),x74];constructor
  ·rintro⟨q,h1,h2⟩;exact⟨q,z2f.1 h1,h2⟩
  ·rintro⟨q,h1,h2⟩;exact⟨q,z2f.2 h1,h2⟩
 have hstay:∀ i q c p,(i,q,c,p)∈L->wj q p=true:=λi q c p h=>(List.all_eq_true.1 hst) (i,q,c,p) h;have hnewB:∀ i o,(i,o)∈nw->newB o=true:=λi o h=>(Bool.and_eq_true_iff.1 ((List.all_eq_true.1 hnw) (i,o) h)).1;have hnewQ:∀ i o,(i,o)∈nw->okQ (ows (vk L nw)) o=true:=λi o h=>(Bool.and_eq_true_iff.1 ((List.all_eq_true.1 hnw) (i,o) h)).2;have howp:∀ i p,((∃ q c,(i,q,c,some p)∈L)∨(i,p)∈nw)->ows (vk L nw) i=some (some p):=λi p h=>(ug ndPost).2 (z2f.2 h)
 have hb1:∀ i,isB (ows (vk L nw) i)=true->∀ b,g''.bl i=some b->G.bl (σ i)=some b:=λi hi b hb=>by
  cases ho:ows (vk L nw) i with
  | none=>rw [ho] at hi;cases hi
  | some oo =>
   cases oo with
   | none=>rw [ho] at hi;cases hi
   | some p =>
    have hp:=z2f.1 ((ug ndPost).1 ho);have hob:=hm2.ob i (anO A i p) ((hpost i _).2 ⟨p,hp,rfl⟩);rcases hp with ⟨q,c,hL⟩|hN
    ·have hs:=hstay i q c (some p) hL;have hmt:=(Wm hm _ hL).1;have hc:=hr.ob (σ i) c (hown i q c _ hL);rw [(hGL i q c _ hL).1]
     cases q with
     | box an t cs =>
      cases an with
      | none=>cases p <;> simp [wj] at hs
      | some z =>
       cases p with
       | box an' t' cs' =>
        cases an' with
        | none=>simp [wj] at hs
        | some z' =>
         cases c with
         | box an2 t2 cs2 =>
          obtain⟨b',l',r1,r0,_⟩:=hc;obtain⟨b2,l2,s1,s0,_⟩:=hob;rw [hb] at s1;cases s1;have e1:=s0 _ rfl;rw [hA i b' r1] at e1;rw [r1,e1]
         | row _ _ _=>exact hmt.elim
         | opq _ _=>exact hmt.elim
         | rowA _ _ _ _=>exact hmt.elim
       | row _ _ _=>simp [wj] at hs
       | opq _ _=>simp [wj] at hs
       | rowA _ _ _ _=>simp [wj] at hs
     | row e size es=>cases p <;> simp [wj] at hs
     | opq an R =>
      cases an with
      | none=>cases p <;> simp [wj] at hs
      | some z =>
       cases p with
       | opq an' R' =>
        cases an' with
        | none=>simp [wj] at hs
        | some z' =>
         cases c with
         | opq an2 R2 =>
          obtain⟨b',l',r1,r0,_⟩:=hc;obtain⟨b2,l2,s1,s0,_⟩:=hob;rw [hb] at s1;cases s1;have e1:=s0 _ rfl;rw [hA i b' r1] at e1;rw [r1,e1]
         | row _ _ _=>exact hmt.elim
         | box _ _ _=>exact hmt.elim
         | rowA _ _ _ _=>exact hmt.elim
       | row _ _ _=>simp [wj] at hs
       | box _ _ _=>simp [wj] at hs
       | rowA _ _ _ _=>simp [wj] at hs
     | rowA v0 e size es =>
      cases p with
      | rowA _ _ _ _=>rw [ho] at hi;cases hi
      | row _ _ _=>simp [wj] at hs
      | opq _ _=>simp [wj] at hs
      | box _ _ _=>simp [wj] at hs
    ·rw [(hGnew i p hN).1];exact hb
 have hb2:∀ i,isR (ows (vk L nw) i)=true->∀ n v,g''.sv i n=some v->G.sv (σ i) n=some v:=λi hi n v hv=>by
  cases ho:ows (vk L nw) i with
  | none=>rw [ho] at hi;cases hi
  | some oo =>
   cases oo with
   | none=>rw [ho] at hi;cases hi
   | some p =>
    rcases z2f.1 ((ug ndPost).1 ho) with ⟨q,c,hL⟩|hN
    ·have hs:=hstay i q c (some p) hL
     cases p with
     | row _ _ _ =>
      cases q with
      | box an t cs=>cases an <;> simp [wj] at hs
      | opq an R=>cases an <;> simp [wj] at hs
      | row _ _ _=>simp [wj] at hs
      | rowA _ _ _ _=>simp [wj] at hs
     | box _ _ _=>rw [ho] at hi;cases hi
     | opq _ _=>rw [ho] at hi;cases hi
     | rowA _ _ _ _=>rw [ho] at hi;cases hi
    ·rw [(hGnew i p hN).2];exact hv
 let M2:Blks:=Mof X' g'' (ows (anL A (vk L nw)))
 have hM20:Ext M2 M2 w' w':=⟨Nat.le_refl _,λ_ _ _ _=>rfl,λ_ _ h=>h⟩
 have hGob:∀ k o,own k=some (some o)->RepO G w M k o:=λk o h=>by
  have h1:=hr.ob k o h;exact h1.keep hMM0 hle λb _=>rfl
 have hokpost:∀ i p,((∃ q c,(i,q,c,some p)∈L)∨(i,p)∈nw)->okP (ows (vk L nw)) p=true:=λi p h=>(List.all_eq_true.1 hc2'.2) (i,p) (z2f.2 h)
 have inA:∀ i v e size es,ows (vk L nw) i=some (some (.rowA v e size es))->∃ q c,(i,q,c,some (.rowA v e size es))∈L:=λi v e size es ho=>by
  rcases z2f.1 ((ug ndPost).1 ho) with hL|hN
  ·exact hL
  ·have:=hnewB i _ hN;cases this
 have ndL:((y26 L).map (·.1)).Nodup:=by
  have h1:=ndPost;unfold vk at h1;rw [List.map_append] at h1;exact (List.nodup_append.1 h1).1
 have ho1:∀ i v e size es,ows (vk L nw) i=some (some (.rowA v e size es))->ows (y26 L) i=ows (vk L nw) i:=λi v e size es ho=>by
  obtain⟨q,c,h1⟩:=inA i v e size es ho;rw [ho,(ug ndL).2];exact List.mem_filterMap.2 ⟨_,h1,rfl⟩
 have hb3:∀ i v e size es,ows (vk L nw) i=some (some (.rowA v e size es))->∀ x,g''.sv i es.length=some x->G.sv (σ i) es.length=some x:=λi v e size es ho x hx=>by
  obtain⟨q,c,h1⟩:=inA i v e size es ho;have hs:=hstay i q c _ h1;have hmt:=(Wm hm _ h1).1;have hsp:=(Wm hm _ h1).2;obtain⟨xs,r1,_⟩:=hm2.ob i _ ((hpost i _).2 ⟨_,.inl ⟨q,c,h1⟩,rfl⟩);rw [hx] at r1;cases r1
  cases q with
  | box an t cs=>cases an <;> simp [wj] at hs
  | opq an R=>cases an <;> simp [wj] at hs
  | row _ _ _=>simp [wj] at hs
  | rowA v0 e0 size0 es0 =>
   have hl:es.length=es0.length:=hsp;have hG:=hGob (σ i) c (hown i _ c _ h1)
   cases c with
   | row e' size' es' =>
    obtain⟨rfl,rfl,rfl⟩:=hmt;obtain⟨v1,ys,s1,_⟩:=hG;have hg0:g.sv (σ i) es0.length=some v1:=by rw [← (hGL i _ _ _ h1).2];exact s1
    rw [hl,s1,hV i _ _ _ h1 v1 (.inl ⟨_,_,_,rfl,hg0⟩)]
   | rowA v1 e' size' es' =>
    obtain⟨rfl,rfl,rfl⟩:=hmt;obtain⟨ys,s1,_⟩:=hG;rw [hl,s1,hV i _ _ _ h1 v1 (.inr ⟨_,_,_,rfl⟩)]
   | box _ _ _=>exact hmt.elim
   | opq _ _=>exact hmt.elim
 have hout:∀ i q c p,(i,q,c,some p)∈L->∀ M',Ext M2 M' w' w'->RepO G w' M' (σ i) (outO σ c p)/\obk G (σ i) (outO σ c p)=obk g'' i (anO A i p):=λi q c p h M' he =>
  RepO.rnStay he hb1 hb2 hb3 ho1 (howp i p (.inl ⟨q,c,h⟩)) (Wm hm _ h).2 (hokpost i p (.inl ⟨q,c,h⟩)) (Wm hm _ h).1 (hstay i q c _ h) (λb hb=>hA i b (by rw [← (hGL i q c _ h).1];exact hb))
   (λv hv=>hV i q c _ h v (by
    rcases hv with ⟨e,size,es,h1,h2⟩|hv
    ·exact .inl ⟨e,size,es,h1,by rw [← (hGL i q c _ h).2];exact h2⟩
    ·exact .inr hv)) (hGob (σ i) c (hown i q c _ h)) (hm2.ob i _ ((hpost i _).2 ⟨p,.inl ⟨q,c,h⟩,rfl⟩))
 have houtN:∀ i p,(i,p)∈nw->∀ M',Ext M2 M' w' w'->RepO G w' M' (σ i) (rnO σ p)/\obk G (σ i) (rnO σ p)=obk g'' i (anO A i p):=λi p h M' he =>
  RepO.rnNew he hb1 hb2 (howp i p (.inr h)) (hnewQ i p h) (hnewB i p h) (hm2.ob i _ ((hpost i _).2 ⟨p,.inr h,rfl⟩))
 let own2:Own:=upl own (wrOf σ L nw)
 have hown2:∀ k o,own2 k=some (some o)->((k ∉ (vz L nw).map σ)/\own k=some (some o))∨(∃ i q c p,(i,q,c,some p)∈L/\k=σ i/\o=outO σ c p)∨∃ i p,(i,p)∈nw/\k=σ i/\o=rnO σ p:=λk o h=>by
  rcases z4d own (wrOf σ L nw) k with ⟨h1,h2⟩|⟨q,h1,h2⟩
  ·rw [z4b] at h1;exact .inl ⟨h1,by rw [← h2];exact h⟩
  ·have hq:q=some (some o):=by rw [← h2];exact h
   subst hq;rcases x2a.1 h1 with ⟨i,q,c,p,r1,r2,r3⟩|⟨i,p,r1,r2,r3⟩
   ·cases p with
    | none=>cases r3
    | some p=>cases r3;exact .inr (.inl ⟨i,q,c,p,r1,r2,rfl⟩)
   ·cases r3;exact .inr (.inr ⟨i,p,r1,r2,rfl⟩)
 -- the block of an object behind the call
 have hblk:∀ k o b,own2 k=some (some o)->obk G k o=some b->((k ∉ (vz L nw).map σ)/\own k=some (some o)/\obk g k o=some b)∨∃ i p,k=σ i/\i∈vz L nw/\ows (anL A (vk L nw)) i=some (some (anO A i p))/\obk g'' i (anO A i p)=some b:=λk o b h hb=>by
  rcases hown2 k o h with ⟨h1,h2⟩|⟨i,q,c,p,h1,rfl,rfl⟩|⟨i,p,h1,rfl,rfl⟩
  ·refine .inl ⟨h1,h2,?_⟩;have:=(hr.ob k o h2).obk_eq hle;rw [this] at hb;exact hb
  ·rw [(hout i q c p h1 M2 hM20).2] at hb;exact .inr ⟨i,p,rfl,Qn.2 (.inl ⟨q,c,_,h1⟩),(hpost i _).2 ⟨p,.inl ⟨q,c,h1⟩,rfl⟩,hb⟩
  ·rw [(houtN i p h1 M2 hM20).2] at hb;exact .inr ⟨i,p,rfl,Qn.2 (.inr ⟨p,h1⟩),(hpost i _).2 ⟨p,.inr h1,rfl⟩,hb⟩
 have hnB:∀ k o b,k ∉ (vz L nw).map σ->own k=some (some o)->obk g k o=some b->¬ B b:=λk o b h1 h2 h3 ⟨i,q,c,p,r1,r2⟩=>by
  have:=hr.sep _ _ _ _ b h2 (hown i q c p r1) h3 r2;subst this;exact h1 (List.mem_map.2 ⟨i,Qn.2 (.inl ⟨q,c,p,r1⟩),rfl⟩)
 have hm0B:∀ b,X.M0 b->¬ B b:=λb h ⟨i,q,c,p,r1,r2⟩=>by
  have h5:=hr.m0.1 b h;rcases hr.mine _ _ b (hown i q c p r1) r2 with h6|h6
  ·exact h5.2 h6
  ·have:=h5.1;omega
 have hMn:∀ b,Mof X G own2 b->M2 b:=λb hb=>by
  rcases hb with hb|⟨k,o,h1,h2⟩
  ·exact .inl ⟨.inl hb,hm0B b hb⟩
  ·rcases hblk k o b h1 h2 with ⟨q1,q2,q3⟩|⟨i,p,q1,q2,q3,q4⟩
   ·exact .inl ⟨.inr ⟨k,o,q2,q3⟩,hnB k o b q1 q2 q3⟩
   ·exact .inr ⟨i,_,q3,q4⟩
 have heO:Ext M2 (Mof X G own2) w' w':=⟨Nat.le_refl _,λ_ _ _ _=>rfl,λb _ h=>hMn b h⟩
 have hkp:Kp S0 w w':=hm2.kp
 have he:Ext M (Mof X G own2) w w':=by
  refine⟨hkp.size,λb hb hM _=>hkp.block b hb λh=>hM (hBM b ((hS0 b).1 h)),λb hb hM=>?_⟩;rcases hMn b hM with h1|⟨i,o,h1,h2⟩
  ·exact h1.1
  ·rcases hm2.mine i o b h1 h2 with h3|h3
   ·exact hBM b ((hS0 b).1 h3)
   ·have h4:w.heap.size<=b:=h3;omega
 have hpostB:∀ i o b,ows (anL A (vk L nw)) i=some (some o)->obk g'' i o=some b->B b∨w.heap.size<=b:=λi o b h1 h2=>by
  rcases hm2.mine i o b h1 h2 with h3|h3
  ·exact .inl ((hS0 b).1 h3)
  ·exact .inr h3
 have hrel:Rel X f' own2 G a w':=by
  refine⟨hr.kp.trans hkp λq hq=>?_,hr.m0,hr.n,hr.df,λt=>(hr.fr t).keep he hle,λk o h=>?_,λk k' o o' b h1 h2 h3 h4=>?_,λk o b h1 h2=>?_,λk h=>?_,λk e size es h n hn=>?_⟩
  ·obtain⟨i,q',c,p,r1,r2⟩:=(hS0 q).1 hq;exact hr.mine _ _ q (hown i q' c p r1) r2
  ·rcases hown2 k o h with ⟨h1,h2⟩|⟨i,q,c,p,h1,rfl,rfl⟩|⟨i,p,h1,rfl,rfl⟩
   ·exact (hr.ob k o h2).keep he hle λb hb=>hkp.block b ((hr.ob k o h2).blk_lt hb) λhs=>hnB k o b h1 h2 hb ((hS0 b).1 hs)
   ·exact (hout i q c p h1 _ heO).1
   ·exact (houtN i p h1 _ heO).1
  ·rcases hblk k o b h1 h3 with ⟨q1,q2,q3⟩|⟨i,p,q1,q2,q3,q4⟩
   ·rcases hblk k' o' b h2 h4 with ⟨r1,r2,r3⟩|⟨i',p',r1,r2,r3,r4⟩
    ·exact hr.sep k k' o o' b q2 r2 q3 r3
    ·exfalso;rcases hpostB i' _ b r3 r4 with h5|h5
     ·exact hnB k o b q1 q2 q3 h5
     ·have:=(hr.ob k o q2).blk_lt q3;omega
   ·rcases hblk k' o' b h2 h4 with ⟨r1,r2,r3⟩|⟨i',p',r1,r2,r3,r4⟩
    ·exfalso;rcases hpostB i _ b q3 q4 with h5|h5
     ·exact hnB k' o' b r1 r2 r3 h5
     ·have:=(hr.ob k' o' r2).blk_lt r3;omega
    ·rw [q1,r1,hm2.sep i i' _ _ b q3 r3 q4 r4]
  ·rcases hblk k o b h1 h2 with ⟨q1,q2,q3⟩|⟨i,p,q1,q2,q3,q4⟩
   ·exact hr.mine k o b q2 q3
   ·rcases hpostB i _ b q3 q4 with ⟨i',q',c,p',r1,r2⟩|h5
    ·exact hr.mine _ _ b (hown i' q' c p' r1) r2
    ·exact .inr (Nat.le_trans hr.kp.size h5)
  ·rcases z4d own (wrOf σ L nw) k with ⟨h1,h2⟩|⟨q,h1,h2⟩
   ·rw [z4b] at h1;have h3:own k=none:=by rw [← h2];exact h
    obtain⟨e1,e2⟩:=hGold k λi o hi hk=>h1 (List.mem_map.2 ⟨i,Qn.2 (.inr ⟨o,hi⟩),hk⟩);rw [e1];exact⟨(hr.fresh k h3).1,λn=>by rw [e2];exact (hr.fresh k h3).2 n⟩
   ·have hq:q=none:=by rw [← h2];exact h
    subst hq;rcases x2a.1 h1 with ⟨i,q,c,p,r1,r2,r3⟩|⟨i,p,r1,r2,r3⟩ <;> cases r3
  ·rcases hown2 k _ h with ⟨h1,h2⟩|⟨i,q,c,p,h1,rfl,h3⟩|⟨i,p,h1,rfl,h3⟩
   ·rw [(hGown k _ h2).2];exact hr.top k e size es h2 n hn
   ·have hs:=hstay i q c _ h1;have hmt:=(Wm hm _ h1).1;have hsp:=(Wm hm _ h1).2
    cases q with
    | box an t cs =>
     cases an with
     | none=>cases p <;> simp [wj] at hs
     | some z =>
      cases p with
      | box an' t' cs' =>
       cases c with
       | box _ _ _=>cases h3
       | row _ _ _=>exact hmt.elim
       | opq _ _=>exact hmt.elim
       | rowA _ _ _ _=>exact hmt.elim
      | row _ _ _=>simp [wj] at hs
      | opq _ _=>simp [wj] at hs
      | rowA _ _ _ _=>simp [wj] at hs
    | row _ _ _=>cases p <;> simp [wj] at hs
    | opq an R =>
     cases an with
     | none=>cases p <;> simp [wj] at hs
     | some z =>
      cases p with
      | opq an' R' =>
       cases c with
       | opq _ _=>cases h3
       | row _ _ _=>exact hmt.elim
       | box _ _ _=>exact hmt.elim
       | rowA _ _ _ _=>exact hmt.elim
      | row _ _ _=>simp [wj] at hs
      | box _ _ _=>simp [wj] at hs
      | rowA _ _ _ _=>simp [wj] at hs
    | rowA v0 e0 size0 es0 =>
     cases p with
     | rowA v1 e1 x31 es1 =>
      cases c with
      | row e2 size2 es2 =>
       cases h3;obtain⟨rfl,rfl,rfl⟩:=hmt;have hl:es.length=es0.length:=hsp;rw [(hGL i _ _ _ h1).2];exact hr.top (σ i) _ _ _ (hown i _ _ _ h1) n (by omega)
      | rowA _ _ _ _=>cases h3
      | box _ _ _=>exact hmt.elim
      | opq _ _=>exact hmt.elim
     | row _ _ _=>simp [wj] at hs
     | opq _ _=>simp [wj] at hs
     | box _ _ _=>simp [wj] at hs
   ·have hnb:=hnewB i p h1
    cases p with
    | row e2 size2 es2 =>
     cases h3;rw [(hGnew i _ h1).2];exact hm2.top i _ _ _ ((hpost i _).2 ⟨_,.inr h1,rfl⟩) n hn
    | box _ _ _=>cases h3
    | opq _ _=>cases h3
    | rowA _ _ _ _=>cases hnb
 exact hK G v w' (hrel.put o.dst (rnS σ res) v hd (hres.rnOut heO hb1 hb2 hc2'.1))
theorem w0z {fn:Nat} {xs:List Operand} {ts:Array TypeId} {args:List Slot} {res:Slot} (σ:Nat->Nat) (L:List Ent) (nw:List (Nat×AObj)) (hF:FnG P fn args (jg L) res (vk L nw)) (ha:z4a f σ xs args) (hm:matL σ L)
  (hnd:ndB (vz L nw)=true) (hnd2:ndB ((vz L nw).map σ)=true) (hst:L.all (λe=>wj e.2.1 e.2.2.2)=true) (hnw:nw.all (λp=>newB p.2 && okQ (ows (vk L nw)) p.2)=true) (hc1:(args.all (okS (ows (jg L))) && (jg L).all λp=>okO (ows (jg L)) p.2)=true) (hc2:(okT (ows (vk L nw)) res && (vk L nw).all λp=>okP (ows (vk L nw)) p.2)=true) :
  Stp P ⟨dst,.call { callee:=.value (.func fn),args:=xs.toArray,argTypes:=ts },ty,pos,af,gd⟩ f ⟨false,rdOf σ L nw,wrOf σ L nw,rnS σ res⟩:=
 x3r σ L nw hF (λg a w M hop=>by
  obtain⟨hlen,hargs⟩:=x1k (ev:=a.eval) (λn=>rfl) xs args ha λy hy=>hop y (by simp only [Op.operands,Call.operands];simp;exact .inr hy);refine⟨xs.toArray.map a.eval,z4u hF.1 _ ts a.eval rfl w,by simp [hlen],λj s hj=>?_⟩;obtain⟨v,h1,h2⟩:=hargs j s hj
  exact⟨v,by simpa using h1,h2⟩) hm hnd hnd2 hst hnw hc1 hc2
end
end Go.Proofs.YtbpedjpoikmbjaaGreatDoor
