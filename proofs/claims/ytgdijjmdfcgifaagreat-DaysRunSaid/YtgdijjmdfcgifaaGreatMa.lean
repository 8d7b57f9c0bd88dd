/- Words for memory: a block known whole, a slice that reads as a list, what was kept. Plain lemmas, no program. Parts of the first two sections are the kit's own extra words. Maps with string keys that the call makes: as plain functions of the key. An abstract machine over the model: values that are read out of memory that stays (V), slots, own objects; the relation to a world; how the relation is kept. No program. Regions of the abstract machine: a run in the order of the text, and a check that no two operations that ww are left without an order, give every order. The region's law of the abstract machine, and the rules for code. The abstract machine: rules for code, functions, and the first operations. The abstract machine: operations on numbers, truth values, strings; boxes; slices that stay; calls of functions of data. The abstract machine: operations on memory; calls of functions of data. The abstract machine: operations that turn an own object; rows; calls of functions of data. The abstract machine: rows of one's own; literals; slices of strings and of slices; small builtins. The abstract machine: literals, made rows, slices, small builtins; memory that a row leaves; functions with a pointer to one object. -/
import Derived.WalkKit
import Derived.WalkSpells
import Derived.WalkLawsBesides
import Derived.Lib.Hide
import Derived.Laws.Rows
import Derived.Deep.Draws
import Derived.Deep.AppendLies
import Derived.Maps.AppendAt
import Derived.RegionTactic
import Derived.Deep.QuietTactic
import Derived.BigQuiet
import Derived.Outline
import Derived.Laws.MakeOwn
import Derived.Deep.DeepCutAuto
import Derived.Maps.Own
import Derived.Maps.OwnOps
import Derived.Maps.Views
import Derived.StringKeys
import Derived.Test.YtgdijjmdfcgifaaGreatProg
import Derived.ControlIn
import Derived.Orders
import Derived.OrdersIn
import Derived.LoopN
import Derived.LoopNIn
import Derived.Deep.MidRow
import Derived.IntWalk
namespace Go.Proofs.YtgdijjmdfcgifaaGreat
open Go.RowKit

def Blk (w:World) (g:Nat) (t:TypeId) (cs:Array Value):Prop:=w.heap[g]?=some (.cells cs t (0,0))

section
variable {w w':World} {g:Nat} {t:TypeId} {cs:Array Value}
theorem Blk.set_ (h:Blk w g t cs) (i:Nat) (u:Value):Blk (w.setCell ⟨g,i,none⟩ u) g t (cs.setIfInBounds i u):=by
 unfold Blk at h ⊢
 simp [World.setCell,Array.getElem?_modify,h]
end

structure Kp (S:List Nat) (w w':World):Prop where
 os:w'.os=w.os
 tape:w'.tape=w.tape
 output:w'.output=w.output
 size:w.heap.size≤w'.heap.size
 block:∀ k,k < w.heap.size→k ∉ S→w'.heap[k]?=w.heap[k]?

section
variable {S S':List Nat} {a b c w w':World}
theorem Kp.refl (S:List Nat) (w:World):Kp S w w:=⟨rfl,rfl,rfl,Nat.le_refl _,fun _ _ _=>rfl⟩
theorem Kp.trans (h:Kp S a b) (k:Kp S' b c) (hs:∀ g,g∈S'→g∈S∨a.heap.size≤g):Kp S a c:=
 ⟨k.os.trans h.os,k.tape.trans h.tape,k.output.trans h.output,Nat.le_trans h.size k.size,fun i hi hn =>
  (k.block i (Nat.lt_of_lt_of_le hi h.size) (fun hm=>by
   rcases hs i hm with hh | hh
   ·exact hn hh
   ·omega)).trans (h.block i hi hn)⟩
theorem Kp.tr0 (h:Kp S a b) (k:Kp [] b c):Kp S a c:=h.trans k fun _ hg=>by simp at hg
theorem Kp.drew (h:Kp S a w):Kp S a w.drew:=⟨h.os,h.tape,h.output,h.size,h.block⟩
theorem Kp.alloc (h:Kp S a w) (o:Obj):Kp S a (w.alloc o):=
 ⟨h.os,h.tape,h.output,Nat.le_trans h.size (by simp),fun i hi hn=>(Below.heap_alloc w o i (Nat.lt_of_lt_of_le hi h.size)).trans (h.block i hi hn)⟩
theorem Kp.set_ (h:Kp S a w) {p:Addr} (hp:p.block∈S∨a.heap.size≤p.block) (u:Value):Kp S a (w.setCell p u):=
 ⟨h.os,h.tape,h.output,by simpa [World.setCell] using h.size,fun i hi hn=>(Below.heap_setCell w p u i (by
  rintro rfl
  rcases hp with hp | hp
  ·exact hn hp
  ·omega)).trans (h.block i hi hn)⟩
theorem Kp.below {B:Nat} (h:Kp S a b) (hB:B≤a.heap.size) (hs:∀ g,g∈S→B≤g):Below B a b:=
 ⟨h.os,h.tape,h.output,h.size,fun k hk=>h.block k (by omega) fun hm=>by have:=hs k hm; omega⟩
theorem Kp.to_below (h:Kp [] a b):Below a.heap.size a b:=h.below (Nat.le_refl _) (by simp)
theorem Kp.of_grown {row:Option Nat} (h:a.grownBy b row) (hr:∀ g,row=some g→g∈S∨a.heap.size≤g):Kp S a b:=
 ⟨h.os,h.tape,h.output,h.size,fun k hk hn=>h.block k hk fun e=>by
  rcases hr k e.symm with hh | hh
  ·exact hn hh
  ·omega⟩
end

section
variable {w w':World} {S:List Nat} {e:TypeId} {size n:Nat} {A:Option Addr} {xs:List Value}
end

def Elem (P:Program) (t e:TypeId) (size bytes:Nat):Prop:=
 ∃ (i:TypeInfo) (z:Value),P.underlying t=some (.slice e)∧P.info? e=some i∧i.zero=some z∧i.size=size∧i.bytes=bytes∧z.cells.size=size∧0 < size
theorem Elem.mk {P:Program} {t e:TypeId} {size bytes:Nat} {z:Value} (ht:P.underlying t=some (.slice e)) (h:(P.info? e).map (fun i=>(i.zero,i.size,i.bytes))=some (some z,size,bytes)) (hz:z.cells.size=size) (hs:0 < size):Elem P t e size bytes:=by
 obtain ⟨i,h1,h2,h3,h4⟩:=info_parts h
 exact ⟨i,z,ht,h1,h2,h3,h4,hz,hs⟩

theorem x6k {w:World} {base n:Nat} {e:TypeId} {size:Nat} {v:Value} {xs:List Value} (h:w.ownsRow base e size v n xs):∀ g,v.ownBlock=some g→base≤g:=by
 intro g hg
 rcases h.2 with ⟨hv,hn⟩ | ⟨g',cap,cur,hv,hb,_⟩
 ·rw [hv] at hg; simp [Value.ownBlock] at hg
 ·rw [hv] at hg; simp [Value.ownBlock] at hg; omega
theorem w2i {w w':World} {base n:Nat} {e:TypeId} {size:Nat} {v:Value} {xs:List Value} (h:w.ownsRow base e size v n xs) (hg:w.grownBy w' v.ownBlock) {a:World} (ha:Kp [] a w) (hb:a.heap.size≤base):Kp [] a w':=
 ha.trans (S':=match v.ownBlock with | some g=>[g] | none=>[]) ⟨hg.os,hg.tape,hg.output,hg.size,fun k hk hn=>hg.block k hk (fun e=>by rw [← e] at hn; simp at hn)⟩ (fun g hm=>by
  cases hv:v.ownBlock with
  | none=>rw [hv] at hm; simp at hm
  | some g' =>
   rw [hv] at hm
   have:g=g':=by simpa using hm
   subst this
   exact .inr (Nat.le_trans hb (x6k h g hv)))

end Go.Proofs.YtgdijjmdfcgifaaGreat
namespace Go.Proofs.YtgdijjmdfcgifaaGreat
open Go.RowKit Go.Maps
set_option linter.unusedVariables false

section
variable {P:Program} {w w':World} {t k e:TypeId} {b n:Nat}
def MapI (P:Program) (w:World) (k e:TypeId) (b n:Nat) (m:List UInt8→Int):Prop:=
 ∃ D:DataW Unit,w.ownsMap P k (plainElem P e) b n D∧∀ l,D.atKey (.string l) (.lit (.int .i64 0)) = .lit (.int .i64 (m l))
def MapB (P:Program) (w:World) (k e:TypeId) (b n:Nat) (m:List UInt8→Bool):Prop:=
 ∃ D:DataW Unit,w.ownsMap P k (plainElem P e) b n D∧∀ l,D.atKey (.string l) (.lit (.bool false)) = .lit (.bool (m l))

def updM {α:Type} (m:List UInt8→α) (l:List UInt8) (v:α):List UInt8→α:=fun l'=>if l'=l then v else m l'

theorem y72 {R:Value→Option (DataW Unit×List MemPlace)} {D:DataW Unit} (h:w.ownsMap P k R b n D):IsMap D:=by
 obtain ⟨es,clock,_,_,_,hD⟩:=h
 exact ⟨_,hD⟩
theorem MapI.made (P:Program) (w:World) (k e:TypeId):MapI P (w.alloc (.map #[] 0)) k e w.heap.size 0 (fun _=>0):=⟨.map [],World.ownsMap_made _ _ _ _,fun _=>rfl⟩
theorem MapB.made (P:Program) (w:World) (k e:TypeId):MapB P (w.alloc (.map #[] 0)) k e w.heap.size 0 (fun _=>false):=⟨.map [],World.ownsMap_made _ _ _ _,fun _=>rfl⟩
theorem MapI.look {m:List UInt8→Int} (h:MapI P w k e b n m) (hk:P.underlying k=some .string) (ht:P.underlying t=some (.map k e)) (he:P.underlying e=some (.int .i64)) (hz:∀ w,(zeroValue e).run P w = .ok (.int .i64 0) w)
  (s:ByteArray) (hs:s.size≤maxLen):(Instr.lookup t (.map (some b)) (.string s) false).run P w = .ok (.int .i64 (m s.data.toList)) w:=by
 obtain ⟨D,h1,h2⟩:=h
 obtain ⟨c,hrun,hat,_⟩:=h1.lookup_int (string_keyed hk) ht he (hz w) (WideMaps.keyOf_string_mk hk hs)
 rw [h2] at hat
 injection hat with hat
 injection hat with _ hat
 rw [hat,hrun]
theorem MapB.look {m:List UInt8→Bool} (h:MapB P w k e b n m) (hk:P.underlying k=some .string) (ht:P.underlying t=some (.map k e)) (he:P.underlying e=some .bool) (hz:∀ w,(zeroValue e).run P w = .ok (.bool false) w)
  (s:ByteArray) (hs:s.size≤maxLen):(Instr.lookup t (.map (some b)) (.string s) false).run P w = .ok (.bool (m s.data.toList)) w:=by
 obtain ⟨D,h1,h2⟩:=h
 obtain ⟨v,ps,hrun,hv⟩:=h1.lookup (string_keyed hk) ht (hz w) (plainElem_bool he false) (WideMaps.keyOf_string_mk hk hs)
 rw [h2] at hv
 have:v = .bool (m s.data.toList):=by
  unfold plainElem at hv
  rw [he] at hv
  cases v <;> simp at hv
  rw [hv.1]
 rw [hrun,this]
theorem MapI.store {m:List UInt8→Int} (h:MapI P w k e b n m) (hk:P.underlying k=some .string) (ht:P.underlying t=some (.map k e)) (he:P.underlying e=some (.int .i64)) (hn:n < 1000000)
  (s:ByteArray) (hs:s.size≤maxLen) (c:Int) (hc:-9223372036854775808≤c∧c≤9223372036854775807) :
  ∃ w',(Instr.mapUpdate t (.map (some b)) (.string s) (.int .i64 c)).run P w = .ok () w'∧MapI P w' k e b (n+1) (updM m s.data.toList c)∧Kp [b] w w':=by
 obtain ⟨D,h1,h2⟩:=h
 have hm:=y72 h1
 obtain ⟨w',hrun,ho,hg⟩:=h1.update (string_keyed hk) ht (by unfold maxLen; omega) (WideMaps.keyOf_string_mk hk hs) (plainElem_int he (WalkArith.wf_i64 hc))
 refine ⟨w',hrun,⟨_,ho,fun l => ?_⟩,Kp.of_grown hg (by intro g hg; injection hg with hg; subst hg; exact .inl (by simp))⟩
 unfold updM
 by_cases hl:l=s.data.toList
 ·subst hl
  rw [if_pos rfl,atKey_put_same hm (by simp [WideAt.IsKeyLit])]
 ·rw [if_neg hl,atKey_put_other (by intro e; injection e with e; exact hl e),h2]
theorem MapB.store {m:List UInt8→Bool} (h:MapB P w k e b n m) (hk:P.underlying k=some .string) (ht:P.underlying t=some (.map k e)) (he:P.underlying e=some .bool) (hn:n < 1000000)
  (s:ByteArray) (hs:s.size≤maxLen) (c:Bool) :
  ∃ w',(Instr.mapUpdate t (.map (some b)) (.string s) (.bool c)).run P w = .ok () w'∧MapB P w' k e b (n+1) (updM m s.data.toList c)∧Kp [b] w w':=by
 obtain ⟨D,h1,h2⟩:=h
 have hm:=y72 h1
 obtain ⟨w',hrun,ho,hg⟩:=h1.update (string_keyed hk) ht (by unfold maxLen; omega) (WideMaps.keyOf_string_mk hk hs) (plainElem_bool he c)
 refine ⟨w',hrun,⟨_,ho,fun l => ?_⟩,Kp.of_grown hg (by intro g hg; injection hg with hg; subst hg; exact .inl (by simp))⟩
 unfold updM
 by_cases hl:l=s.data.toList
 ·subst hl
  rw [if_pos rfl,atKey_put_same hm (by simp [WideAt.IsKeyLit])]
 ·rw [if_neg hl,atKey_put_other (by intro e; injection e with e; exact hl e),h2]
end

end Go.Proofs.YtgdijjmdfcgifaaGreat
namespace Go.Proofs.YtgdijjmdfcgifaaGreat
open Go.RowKit
set_option linter.unusedVariables false

abbrev Blks:=Nat→Prop

def y6v:Obj→Bool
 | .cells _ _ _=>true
 | .map _ _=>true
 | _=>false
structure Ext (M M':Blks) (w w':World):Prop where
 size:w.heap.size≤w'.heap.size
 block:∀ b,b < w.heap.size→¬ M b→(∃ o,w.heap[b]?=some o∧y6v o=true)→w'.heap[b]?=w.heap[b]?
 sub:∀ b,b < w.heap.size→M' b→M b

structure V where
 p:World→Blks→Value→Prop
 one:Bool
 keep:∀ {w w':World} {M M':Blks} {v:Value},Ext M M' w w'→p w M v→p w' M' v
 hone:one=true→∀ {w:World} {M:Blks} {v:Value},p w M v→v.oneCell'=true

def vval (u:Value):V:=⟨fun _ _ v=>v=u,u.oneCell',fun _ h=>h,fun h _ _ _ hv=>by rw [hv]; exact h⟩

def Cs (w:World) (M:Blks) (us:List V) (l:List Value):Prop:=
 l.length=us.length∧∀ (j:Nat) (u:V),us[j]?=some u→∃ x,l[j]?=some x∧u.p w M x∧x.oneCell'=true
theorem Cs.keep {w w':World} {M M':Blks} {us:List V} {l:List Value} (e:Ext M M' w w') (h:Cs w M us l):Cs w' M' us l:=
 ⟨h.1,fun j u hu=>let ⟨x,h1,h2,h3⟩:=h.2 j u hu; ⟨x,h1,u.keep e h2,h3⟩⟩

def vagg (us:List V):V:=⟨fun w M v=>∃ l:List Value,v = .agg l.toArray∧Cs w M us l,false,fun e ⟨l,h1,h2⟩=>⟨l,h1,h2.keep e⟩,fun h=>by cases h⟩
def Ts (w:World) (M:Blks) (us:List V) (l:List Value):Prop:=
 l.length=us.length∧∀ (j:Nat) (u:V),us[j]?=some u→∃ x,l[j]?=some x∧u.p w M x
theorem Ts.keep {w w':World} {M M':Blks} {us:List V} {l:List Value} (e:Ext M M' w w') (h:Ts w M us l):Ts w' M' us l:=
 ⟨h.1,fun j u hu=>let ⟨x,h1,h2⟩:=h.2 j u hu; ⟨x,h1,u.keep e h2⟩⟩
def vtup (us:List V):V:=⟨fun w M v=>∃ l:List Value,v = .tuple l.toArray∧Ts w M us l,false,fun e ⟨l,h1,h2⟩=>⟨l,h1,h2.keep e⟩,fun h=>by cases h⟩

def z2j (w:World) (M:Blks) (b off size:Nat) (es:List (List V)):Prop:=
 ¬ M b∧∃ arr e fz,w.heap[b]?=some (.cells arr e fz)∧(∀ el,el∈es→el.length=size) ∧
  ∀ (k c:Nat) (el:List V) (u:V),es[k]?=some el→el[c]?=some u→∃ x,arr[off+k * size+c]?=some x∧u.p w M x∧x.oneCell'=true
theorem z14 {w:World} {b:Nat} {o:Obj} (h:w.heap[b]?=some o):b < w.heap.size:=by
 rcases Nat.lt_or_ge b w.heap.size with hlt | hge
 ·exact hlt
 ·rw [Array.getElem?_eq_none hge] at h; cases h
theorem z2j.keep {w w':World} {M M':Blks} {b off size:Nat} {es:List (List V)} (e:Ext M M' w w') (h:z2j w M b off size es):z2j w' M' b off size es:=by
 obtain ⟨hM,arr,t,fz,h1,h2,h3⟩:=h
 refine ⟨fun hm=>hM (e.sub b (z14 h1) hm),arr,t,fz,(e.block b (z14 h1) hM ⟨_,h1,rfl⟩).trans h1,h2,fun k c el u hk hc => ?_⟩
 obtain ⟨x,g1,g2,g3⟩:=h3 k c el u hk hc
 exact ⟨x,g1,u.keep e g2,g3⟩

def vlst (es:List (List V)):V:=
  ⟨fun w M v=>∃ A c,v = .slice A es.length c∧es.length≤c∧(es≠[]→∃ b off size,A=some ⟨b,off,none⟩∧z2j w M b off size es),true,
   fun e ⟨A,c,h1,h2,h3⟩=>⟨A,c,h1,h2,fun hne=>let ⟨b,off,size,g1,g2⟩:=h3 hne; ⟨b,off,size,g1,g2.keep e⟩⟩,
   fun _ _ _ v ⟨A,c,h1,_⟩=>by rw [h1]; rfl⟩
def zx (es:List (List V)) (k c:Nat):V:=
  ⟨fun w M v=>∃ b off size,v = .pointer (some ⟨b,off+k * size+c,none⟩)∧z2j w M b off size es,true,
   fun e ⟨b,off,size,h1,h2⟩=>⟨b,off,size,h1,h2.keep e⟩,
   fun _ _ _ v ⟨b,off,size,h1,_⟩=>by rw [h1]; rfl⟩

inductive Cmp where
 | dat (v:V)
 | ptr (id off:Nat)
 | row (id n:Nat)
 | mp (id:Nat)
inductive Slot where
 | any
 | dat (v:V)
 | ptr (id off:Nat)
 | row (id n:Nat)
 | rptr (id n size k c:Nat)
 | mp (id:Nat)
 | rsub (id n size k:Nat)
 | nptr (id:Nat)
 | dr (id:Nat) (u:Nat→V)
 | comp (tup:Bool) (cs:List Cmp)

inductive AObj where
 | box (an:Option Nat) (t:TypeId) (cs:List Slot)
 | row (e:TypeId) (size:Nat) (es:List (List V))
 | opq (an:Option Nat) (R:Obj→Prop)
 | rowA (v:Value) (e:TypeId) (size:Nat) (es:List (List V))

structure Gh where
 bl:Nat→Option Nat
 sv:Nat→Nat→Option Value
structure Gh.le (g g':Gh):Prop where
 bl:∀ id b,g.bl id=some b→g'.bl id=some b
 sv:∀ id n v,g.sv id n=some v→g'.sv id n=some v
theorem Gh.le_refl (g:Gh):g.le g:=⟨fun _ _ h=>h,fun _ _ _ h=>h⟩

def Cmp.s:Cmp→Slot
 | .dat v => .dat v
 | .ptr id off => .ptr id off
 | .row id n => .row id n
 | .mp id => .mp id
def RepC (g:Gh) (w:World) (M:Blks):Cmp→Value→Prop
 | .dat u,v=>u.p w M v
 | .ptr id off,v=>∃ b,g.bl id=some b∧v = .pointer (some ⟨b,off,none⟩)
 | .row id n,v=>g.sv id n=some v
 | .mp id,v=>∃ b,g.bl id=some b∧v = .map (some b)
def kq (g:Gh) (w:World) (M:Blks) (tup:Bool) (cs:List Cmp) (v:Value):Prop:=
 ∃ l:List Value,v=cond tup (.tuple l.toArray) (.agg l.toArray)∧l.length=cs.length∧∀ (j:Nat) (c:Cmp),cs[j]?=some c→∃ x,l[j]?=some x∧RepC g w M c x∧(tup=false→x.oneCell'=true)
theorem kq.mono {g g':Gh} {w w':World} {M M':Blks} {tup:Bool} {cs:List Cmp} {v:Value} (h:kq g w M tup cs v) (hc:∀ c x,c∈cs→RepC g w M c x→RepC g' w' M' c x):kq g' w' M' tup cs v:=by
 obtain ⟨l,h1,h2,h3⟩:=h
 refine ⟨l,h1,h2,fun j c hj => ?_⟩
 obtain ⟨x,q1,q2,q3⟩:=h3 j c hj
 exact ⟨x,q1,hc c x (List.mem_of_getElem? hj) q2,q3⟩
theorem kq.map {g g':Gh} {w w':World} {M M':Blks} {tup:Bool} {cs:List Cmp} {v:Value} (φ:Cmp→Cmp) (h:kq g w M tup cs v) (hc:∀ c x,c∈cs→RepC g w M c x→RepC g' w' M' (φ c) x):kq g' w' M' tup (cs.map φ) v:=by
 obtain ⟨l,h1,h2,h3⟩:=h
 refine ⟨l,h1,by rw [List.length_map]; exact h2,fun j c hj => ?_⟩
 rw [List.getElem?_map] at hj
 obtain ⟨c0,h4,rfl⟩:=Option.map_eq_some_iff.1 hj
 obtain ⟨x,q1,q2,q3⟩:=h3 j c0 h4
 exact ⟨x,q1,hc c0 x (List.mem_of_getElem? h4) q2,q3⟩
theorem kq.unmap {g g':Gh} {w w':World} {M M':Blks} {tup:Bool} {cs:List Cmp} {v:Value} (φ:Cmp→Cmp) (h:kq g w M tup (cs.map φ) v) (hc:∀ c x,c∈cs→RepC g w M (φ c) x→RepC g' w' M' c x):kq g' w' M' tup cs v:=by
 obtain ⟨l,h1,h2,h3⟩:=h
 refine ⟨l,h1,by rw [List.length_map] at h2; exact h2,fun j c hj => ?_⟩
 obtain ⟨x,q1,q2,q3⟩:=h3 j (φ c) (by rw [List.getElem?_map,hj]; rfl)
 exact ⟨x,q1,hc c x (List.mem_of_getElem? hj) q2,q3⟩
def RepS (g:Gh) (w:World) (M:Blks):Slot→Value→Prop
 | .any,_=>True
 | .dat u,v=>u.p w M v
 | .ptr id off,v=>∃ b,g.bl id=some b∧v = .pointer (some ⟨b,off,none⟩)
 | .row id n,v=>g.sv id n=some v
 | .rptr id n size k c,v=>∃ b cap,g.sv id n=some (.slice (some ⟨b,0,none⟩) n cap)∧v = .pointer (some ⟨b,k * size+c,none⟩)
 | .mp id,v=>∃ b,g.bl id=some b∧v = .map (some b)
 | .rsub id n size k,v=>∃ b cap,g.sv id n=some (.slice (some ⟨b,0,none⟩) n cap)∧v = .slice (some ⟨b,if cap=k then 0 else k * size,none⟩) (n - k) (cap - k)
 | .nptr id,v=>v = .pointer none∨∃ b,g.bl id=some b∧v = .pointer (some ⟨b,0,none⟩)
 | .dr id u,v=>∃ b,g.bl id=some b∧(u b).p w M v
 | .comp tup cs,v=>kq g w M tup cs v
theorem RepC.keep {g g':Gh} {w w':World} {M M':Blks} {c:Cmp} {v:Value} (e:Ext M M' w w') (hg:g.le g') (h:RepC g w M c v):RepC g' w' M' c v:=by
 cases c with
 | dat u=>exact u.keep e h
 | ptr id off=>obtain ⟨b,h1,h2⟩:=h; exact ⟨b,hg.bl _ _ h1,h2⟩
 | row id n=>exact hg.sv _ _ _ h
 | mp id=>obtain ⟨b,h1,h2⟩:=h; exact ⟨b,hg.bl _ _ h1,h2⟩
theorem RepS.keep {g g':Gh} {w w':World} {M M':Blks} {s:Slot} {v:Value} (e:Ext M M' w w') (hg:g.le g') (h:RepS g w M s v):RepS g' w' M' s v:=by
 cases s with
 | any=>trivial
 | dat u=>exact u.keep e h
 | ptr id off=>obtain ⟨b,h1,h2⟩:=h; exact ⟨b,hg.bl _ _ h1,h2⟩
 | row id n=>exact hg.sv _ _ _ h
 | rptr id n size k c=>obtain ⟨b,cap,h1,h2⟩:=h; exact ⟨b,cap,hg.sv _ _ _ h1,h2⟩
 | mp id=>obtain ⟨b,h1,h2⟩:=h; exact ⟨b,hg.bl _ _ h1,h2⟩
 | rsub id n size k=>obtain ⟨b,cap,h1,h2⟩:=h; exact ⟨b,cap,hg.sv _ _ _ h1,h2⟩
 | nptr id =>
  rcases h with h | ⟨b,h1,h2⟩
  ·exact .inl h
  ·exact .inr ⟨b,hg.bl _ _ h1,h2⟩
 | dr id u=>obtain ⟨b,h1,h2⟩:=h; exact ⟨b,hg.bl _ _ h1,(u b).keep e h2⟩
 | comp tup cs=>exact kq.mono h fun c x _ hc=>RepC.keep e hg hc

abbrev Own:=Nat→Option (Option AObj)

def obk (g:Gh) (id:Nat):AObj→Option Nat
 | .box _ _ _=>g.bl id
 | .row _ _ es=>(g.sv id es.length).bind Value.ownBlock
 | .opq _ _=>g.bl id
 | .rowA v _ _ _=>v.ownBlock

def RepO (g:Gh) (w:World) (M:Blks) (id:Nat):AObj→Prop
 | .box an t cs=>∃ (b:Nat) (l:List Value),g.bl id=some b∧(∀ q,an=some q→q=b)∧w.heap[b]?=some (.cells l.toArray t (0,0))∧l.length=cs.length ∧
   ∀ (j:Nat) (s:Slot),cs[j]?=some s→∃ x,l[j]?=some x∧RepS g w M s x∧x.oneCell'=true
 | .row e size es=>∃ (v:Value) (xs:List Value),g.sv id es.length=some v∧w.ownsRow 0 e size v es.length xs∧0 < size∧(∀ el,el∈es→el.length=size) ∧
   ∀ (k c:Nat) (el:List V) (u:V),es[k]?=some el→el[c]?=some u→∃ x,xs[k * size+c]?=some x∧u.p w M x∧x.oneCell'=true
 | .opq an R=>∃ (b:Nat) (o:Obj),g.bl id=some b∧(∀ q,an=some q→q=b)∧w.heap[b]?=some o∧R o
 | .rowA v e size es=>∃ (xs:List Value),g.sv id es.length=some v∧w.ownsRow 0 e size v es.length xs∧0 < size∧(∀ el,el∈es→el.length=size) ∧
   ∀ (k c:Nat) (el:List V) (u:V),es[k]?=some el→el[c]?=some u→∃ x,xs[k * size+c]?=some x∧u.p w M x∧x.oneCell'=true

def glL:List Nat:=[0]
def GlP (w:World):Prop:=True
def Gl (w:World):Prop:=∃ w1:World,(glL≠[]→w1.ShapedOpen Tryz.prog)∧GlP w1∧∀ b,b∈glL→b < w.heap.size∧w.heap[b]?=w1.heap[b]?
def Mlt (w:World) (M:Blks):Prop:=(∀ b,M b→b < w.heap.size)∧Gl w∧∀ b,b∈glL→¬ M b
def x1l (M0:Blks) (w0:World) (S0:List Nat):Prop:=(∀ b,M0 b→b < w0.heap.size∧b ∉ S0)∧Gl w0∧∀ b,b∈glL→¬ M0 b∧b ∉ S0

structure Ctx where
 M0:Blks
 w0:World
 S0:List Nat
 N:Nat
 R:Option Nat:=none
 D:List Deferred:=[]
abbrev FR (r:Option Nat):Fence:={ Fence.wide with round:=r }

def Mof (X:Ctx) (g:Gh) (own:Own):Blks:=fun b=>X.M0 b∨∃ id o,own id=some (some o)∧obk g id o=some b

structure Rel (X:Ctx) (f:Nat→Slot) (own:Own) (g:Gh) (a:Act) (w:World):Prop where
 kp:Kp X.S0 X.w0 w
 m0:x1l X.M0 X.w0 X.S0
 n:a.tmps.size=X.N
 df:a.defers=X.D
 fr:∀ t,RepS g w (Mof X g own) (f t) (a.tmps.getD t undef)
 ob:∀ id o,own id=some (some o)→RepO g w (Mof X g own) id o
 sep:∀ id id' o o' b,own id=some (some o)→own id'=some (some o')→obk g id o=some b→obk g id' o'=some b→id=id'
 mine:∀ id o b,own id=some (some o)→obk g id o=some b→b∈X.S0∨X.w0.heap.size≤b
 fresh:∀ id,own id=none→g.bl id=none∧∀ n,g.sv id n=none
 top:∀ id e size es,own id=some (some (.row e size es))→∀ k,es.length < k→g.sv id k=none

theorem RepO.blk_lt {g:Gh} {w:World} {M:Blks} {id:Nat} {o:AObj} {b:Nat} (h:RepO g w M id o) (hb:obk g id o=some b):b < w.heap.size:=by
 cases o with
 | box an t cs=>obtain ⟨b',l,h1,_,h2,_⟩:=h; simp [obk] at hb; rw [h1] at hb; cases hb; exact z14 h2
 | row e size es =>
  obtain ⟨v,xs,h1,h2,_⟩:=h
  simp only [obk,h1,Option.bind_some] at hb
  exact (h2.lt b hb).2
 | opq an R=>obtain ⟨b',o,h1,_,h2,_⟩:=h; simp only [obk] at hb; rw [h1] at hb; cases hb; exact z14 h2
 | rowA v e size es=>obtain ⟨xs,h1,h2,_⟩:=h; exact (h2.lt b hb).2

theorem Rel.mlt {X:Ctx} {f':Nat→Slot} {own:Own} {g:Gh} {a:Act} {w:World} (hr:Rel X f' own g a w):Mlt w (Mof X g own):=by
 obtain ⟨c1,⟨w1,c2,c2P,c3⟩,c4⟩:=hr.m0
 refine ⟨?_,⟨w1,c2,c2P,fun b hb => ?_⟩,?_⟩
 ·rintro b (hb | ⟨id,o,h1,h2⟩)
  ·exact Nat.lt_of_lt_of_le (c1 b hb).1 hr.kp.size
  ·exact (hr.ob id o h1).blk_lt h2
 ·obtain ⟨h1,h2⟩:=c3 b hb
  exact ⟨Nat.lt_of_lt_of_le h1 hr.kp.size,(hr.kp.block b h1 (c4 b hb).2).trans h2⟩
 ·rintro b hb (h | ⟨id,o,h1,h2⟩)
  ·exact (c4 b hb).1 h
  ·rcases hr.mine id o b h1 h2 with h3 | h3
   ·exact (c4 b hb).2 h3
   ·have:=(c3 b hb).1; omega

theorem RepO.keep {g g':Gh} {w w':World} {M M':Blks} {id:Nat} {o:AObj} (e:Ext M M' w w') (hg:g.le g') (hb:∀ b,obk g id o=some b→w'.heap[b]?=w.heap[b]?) (h:RepO g w M id o):RepO g' w' M' id o:=by
 cases o with
 | box an t cs =>
  obtain ⟨b,l,h1,h0,h2,h3,h4⟩:=h
  refine ⟨b,l,hg.bl _ _ h1,h0,(hb b h1).trans h2,h3,fun j s hs => ?_⟩
  obtain ⟨x,g1,g2,g3⟩:=h4 j s hs
  exact ⟨x,g1,g2.keep e hg,g3⟩
 | row t size es =>
  obtain ⟨v,xs,h1,h2,h3,h4,h5⟩:=h
  refine ⟨v,xs,hg.sv _ _ _ h1,⟨h2.1,?_⟩,h3,h4,fun k c el u hk hc => ?_⟩
  ·rcases h2.2 with hn | ⟨q,cap,cur,hv,hb',hq,hr⟩
   ·exact .inl hn
   ·exact .inr ⟨q,cap,cur,hv,hb',(hb q (by simp only [obk,h1,Option.bind_some]; rw [hv]; rfl)).trans hq,hr⟩
  ·obtain ⟨x,g1,g2,g3⟩:=h5 k c el u hk hc
   exact ⟨x,g1,u.keep e g2,g3⟩
 | opq an R=>obtain ⟨b,o,h1,h0,h2,h3⟩:=h; exact ⟨b,o,hg.bl _ _ h1,h0,(hb b h1).trans h2,h3⟩
 | rowA v t size es =>
  obtain ⟨xs,h1,h2,h3,h4,h5⟩:=h
  refine ⟨xs,hg.sv _ _ _ h1,⟨h2.1,?_⟩,h3,h4,fun k c el u hk hc => ?_⟩
  ·rcases h2.2 with hn | ⟨q,cap,cur,hv,hb',hq,hr⟩
   ·exact .inl hn
   ·exact .inr ⟨q,cap,cur,hv,hb',(hb q (by simp only [obk]; rw [hv]; rfl)).trans hq,hr⟩
  ·obtain ⟨x,g1,g2,g3⟩:=h5 k c el u hk hc
   exact ⟨x,g1,u.keep e g2,g3⟩

theorem RepO.obk_eq {g g':Gh} {w:World} {M:Blks} {id:Nat} {o:AObj} (hg:g.le g') (h:RepO g w M id o):obk g' id o=obk g id o:=by
 cases o with
 | box an t cs=>obtain ⟨b,l,h1,_⟩:=h; simp only [obk]; rw [h1,hg.bl _ _ h1]
 | row e size es=>obtain ⟨v,xs,h1,_⟩:=h; simp only [obk]; rw [h1,hg.sv _ _ _ h1]
 | opq an R=>obtain ⟨b,o,h1,_⟩:=h; simp only [obk]; rw [h1,hg.bl _ _ h1]
 | rowA v e size es=>rfl

theorem Rel.step {X:Ctx} {f:Nat→Slot} {own own':Own} {g g':Gh} {a:Act} {w w':World} (h:Rel X f own g a w)
  (hg:g.le g') (hkp:Kp [] w w'∨∃ i o b,own i=some (some o)∧obk g i o=some b∧Kp [b] w w')
  (hown:∀ id o,own' id=some (some o)→(own id=some (some o)∧∀ b,obk g id o=some b→w'.heap[b]?=w.heap[b]?) ∨
   (RepO g' w' (Mof X g' own') id o∧∀ b,obk g' id o=some b→w.heap.size≤b∨∃ o',own id=some (some o')∧obk g id o'=some b))
  (hfr:∀ id,own' id=none→g'.bl id=none∧∀ n,g'.sv id n=none)
  (htop:∀ id e size es,own' id=some (some (.row e size es))→∀ k,es.length < k→g'.sv id k=none)
  (hnew:∀ id id' o o' b,own' id=some (some o)→own' id'=some (some o')→obk g' id o=some b→obk g' id' o'=some b→w.heap.size≤b→id=id') :
  Rel X f own' g' a w'∧Ext (Mof X g own) (Mof X g' own') w w':=by
 have hold:∀ id o b,own' id=some (some o)→obk g' id o=some b→w.heap.size≤b∨∃ o',own id=some (some o')∧obk g id o'=some b:=by
  intro id o b ho hb
  rcases hown id o ho with ⟨h1,h2⟩ | ⟨_,h2⟩
  ·rw [(h.ob id o h1).obk_eq hg] at hb
   exact .inr ⟨o,h1,hb⟩
  ·exact h2 b hb
 have hsz:w.heap.size≤w'.heap.size:=by
  rcases hkp with hk | ⟨i,o,b,_,_,hk⟩ <;> exact hk.size
 have he:Ext (Mof X g own) (Mof X g' own') w w':=by
  refine ⟨hsz,fun b hb hM _ => ?_,fun b hb hM => ?_⟩
  ·rcases hkp with hk | ⟨i,o,b',ho,hbk,hk⟩
   ·exact hk.block b hb (by simp)
   ·refine hk.block b hb ?_
    intro hm
    have:b=b':=by simpa using hm
    subst this
    exact hM (.inr ⟨i,o,ho,hbk⟩)
  ·rcases hM with hM | ⟨id,o,ho,hbk⟩
   ·exact .inl hM
   ·rcases hold id o b ho hbk with h1 | ⟨o',h1,h2⟩
    ·omega
    ·exact .inr ⟨id,o',h1,h2⟩
 have hkw:Kp X.S0 X.w0 w':=by
  rcases hkp with hk | ⟨i,o,b,ho,hbk,hk⟩
  ·exact h.kp.tr0 hk
  ·refine h.kp.trans hk (fun q hq => ?_)
   have:q=b:=by simpa using hq
   subst this
   exact h.mine i o q ho hbk
 refine ⟨⟨hkw,h.m0,h.n,h.df,fun t=>(h.fr t).keep he hg,fun id o ho => ?_,fun id id' o o' b h1 h2 h3 h4 => ?_,fun id o b ho hb => ?_,hfr,htop⟩,he⟩
 ·rcases hown id o ho with ⟨h1,h2⟩ | ⟨h1,_⟩
  ·exact (h.ob id o h1).keep he hg h2
  ·exact h1
 ·rcases hold id o b h1 h3 with q1 | ⟨p1,q1,q2⟩
  ·exact hnew id id' o o' b h1 h2 h3 h4 q1
  ·rcases hold id' o' b h2 h4 with q3 | ⟨p2,q3,q4⟩
   ·exact hnew id id' o o' b h1 h2 h3 h4 q3
   ·exact h.sep id id' p1 p2 b q1 q3 q2 q4
 ·rcases hold id o b ho hb with q1 | ⟨p1,q1,q2⟩
  ·exact .inr (Nat.le_trans h.kp.size q1)
  ·exact h.mine id p1 b q1 q2

theorem Rel.grow {X:Ctx} {f:Nat→Slot} {own:Own} {g:Gh} {a:Act} {w w':World} (h:Rel X f own g a w) (hk:Kp [] w w'):Rel X f own g a w':=
 (h.step (Gh.le_refl g) (.inl hk) (fun id o ho => .inl ⟨ho,fun b hb=>hk.block b ((h.ob id o ho).blk_lt hb) (by simp)⟩) h.fresh h.top
  (fun id id' o o' b h1 h2 h3 h4 hs=>by have:=(h.ob id o h1).blk_lt h3; omega)).1

def updS (f:Nat→Slot) (d:Option Nat) (s:Slot):Nat→Slot:=match d with | some d=>fun t=>cond (Nat.beq t d) s (f t) | none=>f

theorem Rel.put {X:Ctx} {f:Nat→Slot} {own:Own} {g:Gh} {a:Act} {w:World} (h:Rel X f own g a w) (d:Option Nat) (s:Slot) (v:Value) (hd:∀ d',d=some d'→d' < X.N)
  (hv:RepS g w (Mof X g own) s v):Rel X (updS f d s) own g (a.put d v) w:=by
 cases d with
 | none=>exact h
 | some d =>
  refine ⟨h.kp,h.m0,by simpa [Act.put] using h.n,h.df,fun t => ?_,h.ob,h.sep,h.mine,h.fresh,h.top⟩
  have hsz:=h.n
  have hdn:=hd d rfl
  by_cases htd:t=d
  ·subst htd
   have e1:Nat.beq t t=true:=by simp
   simp only [updS,Act.put,e1,cond_true]
   rw [Array.getD_eq_getD_getElem?,Array.getElem?_setIfInBounds_self_of_lt (by omega)]
   exact hv
  ·have h1:=h.fr t
   have e1:Nat.beq t d=false:=by
    cases hb:Nat.beq t d
    ·rfl
    ·exact absurd (Nat.eq_of_beq_eq_true hb) htd
   simp only [updS,Act.put,e1,cond_false]
   rw [Array.getD_eq_getD_getElem?,Array.getElem?_setIfInBounds_ne (Ne.symm htd),← Array.getD_eq_getD_getElem?]
   exact h1
end Go.Proofs.YtgdijjmdfcgifaaGreat
namespace Go.Proofs.YtgdijjmdfcgifaaGreat
open Go.RowKit
set_option linter.unusedVariables false

section mem
variable {β:Type}
def upl (f:Nat→β):List (Nat×β)→Nat→β
 | []=>f
 | (k,v)::l=>fun x=>cond (Nat.beq x k) v (upl f l x)
def keys (l:List (Nat×β)):List Nat:=l.map (·.1)
theorem qu {x k:Nat} (h:x≠k):Nat.beq x k=false:=by
 cases hb:Nat.beq x k
 ·rfl
 ·exact absurd (Nat.eq_of_beq_eq_true hb) h
theorem Ws (f:Nat→β) (l:List (Nat×β)) (x:Nat) (h:x ∉ keys l):upl f l x=f x:=by
 induction l with
 | nil=>rfl
 | cons p l ih =>
  obtain ⟨k,v⟩:=p
  simp only [keys,List.map_cons,List.mem_cons,not_or] at h
  simp only [upl,qu h.1,cond_false]
  exact ih h.2
theorem y1x (f f':Nat→β) (l:List (Nat×β)) (x:Nat) (h:x∈keys l):upl f l x=upl f' l x:=by
 induction l with
 | nil=>cases h
 | cons p l ih =>
  obtain ⟨k,v⟩:=p
  simp only [upl]
  by_cases hk:x=k
  ·subst hk
   have:Nat.beq x x=true:=by simp
   simp only [this,cond_true]
  ·simp only [qu hk,cond_false]
   simp only [keys,List.map_cons,List.mem_cons] at h
   exact ih (h.resolve_left hk)
def memD (W:Nat→List (Nat×β)) (D:Nat→Bool) (f:Nat→β):Nat→Nat→β
 | 0=>f
 | i+1=>if D i then upl (memD W D f i) (W i) else memD W D f i
variable {W:Nat→List (Nat×β)} {D:Nat→Bool} {f:Nat→β} {i n k:Nat}
theorem y8l (hb:∀ j,j < i→k∈keys (W j)→D j=true):memD W D f i k=memD W (fun _=>true) f i k:=by
 induction i with
 | zero=>rfl
 | succ i ih =>
  have h1:=ih fun j hj=>hb j (by omega)
  simp only [memD,if_true]
  by_cases hk:k∈keys (W i)
  ·rw [if_pos (hb i (by omega) hk)]
   exact y1x _ _ _ _ hk
  ·rw [Ws _ _ _ hk]
   split
   ·rw [Ws _ _ _ hk]; exact h1
   ·exact h1
theorem x60 (hin : i ≤ n) (ha : ∀ j, i ≤ j → j < n → k ∈ keys (W j) → D j = false) : memD W D f n k = memD W D f i k := by
  induction n with
  | zero => obtain rfl : i = 0 := by omega
            rfl
  | succ n ih =>
    rcases Nat.lt_or_ge n i with hl | hl
    · obtain rfl : i = n + 1 := by omega
      rfl
    · have h1 := ih hl fun j hj hjn => ha j hj (by omega)
      simp only [memD]
      by_cases hk : k ∈ keys (W n)
      · rw [if_neg (by rw [ha n hl (by omega) hk]; simp)]
        exact h1
      · split
        · rw [Ws _ _ _ hk]; exact h1
        · exact h1
theorem z9s (hin:i≤n) (hb:∀ j,j < i→k∈keys (W j)→D j=true) (ha:∀ j,i≤j→j < n→k∈keys (W j)→D j=false):memD W D f n k=memD W (fun _=>true) f i k:=
 (x60 hin ha).trans (y8l hb)
theorem z3k {D' : Nat → Bool} (hin : i < n) (hD : D i = false) (hD' : ∀ j, D' j = (D j || decide (j = i)))
    (hl : ∀ j, i < j → j < n → D j = true → ∀ k, k ∈ keys (W i) → k ∉ keys (W j)) : memD W D' f n = upl (memD W D f n) (W i) := by
  have h0 : ∀ m, m ≤ i → memD W D' f m = memD W D f m := by
    intro m
    induction m with
    | zero => intro _; rfl
    | succ m ih =>
      intro hm
      have : D' m = D m := by rw [hD' m]; have : m ≠ i := by omega
                              simp [this]
      simp only [memD, this, ih (by omega)]
  have h1 : ∀ m, i < m → m ≤ n → memD W D' f m = upl (memD W D f m) (W i) := by
    intro m
    induction m with
    | zero => intro h; omega
    | succ m ih =>
      intro hm hmn
      by_cases hmi : m = i
      · subst hmi
        have e1 : D' m = true := by rw [hD' m]; simp
        simp only [memD, e1, hD, if_true, h0 m (Nat.le_refl _)]
        rfl
      · have e1 : D' m = D m := by rw [hD' m]; simp [hmi]
        have h2 := ih (by omega) (by omega)
        simp only [memD, e1, h2]
        cases hDm : D m
        · rfl
        · simp only [if_true]
          funext x
          have hk := hl m (by omega) (by omega) hDm
          by_cases hx : x ∈ keys (W i)
          · rw [Ws _ (W m) _ (hk x hx)]
            exact y1x _ _ _ _ hx
          · rw [Ws _ (W i) _ hx]
            by_cases hy : x ∈ keys (W m)
            · exact y1x _ _ _ _ hy
            · rw [Ws _ (W m) _ hy, Ws _ (W m) _ hy, Ws _ (W i) _ hx]
  exact h1 n hin (Nat.le_refl _)
end mem

def jk (ops:Array Oper):Nat→Nat→List Nat
 | 0,_=>[]
 | n+1,j=>match ops[j]? with
  | none=>[]
  | some o=>o.after.toList.flatMap fun e=>if Region.binds .any e then e.on::jk ops n e.on else []
theorem z7v {ops:Array Oper} {D:Nat→Bool} (hD:∀ j o,ops[j]?=some o→D j=true→∀ e∈o.after,Region.binds .any e=true→D e.on=true) :
  ∀ n j i,i∈jk ops n j→D j=true→D i=true:=by
 intro n
 induction n with
 | zero=>intro j i h; cases h
 | succ n ih =>
  intro j i h hj
  unfold jk at h
  cases ho:ops[j]? with
  | none=>rw [ho] at h; cases h
  | some o =>
   rw [ho] at h
   simp only [List.mem_flatMap,Array.mem_toList_iff] at h
   obtain ⟨e,he,hi⟩:=h
   by_cases hb:Region.binds .any e=true
   ·rw [if_pos hb] at hi
    have hDe:=hD j o ho hj e he hb
    rcases List.mem_cons.1 hi with rfl | hi
    ·exact hDe
    ·exact ih _ _ hi hDe
   ·rw [if_neg hb] at hi; cases hi

structure Tr where
 skip:Bool
 rd:List (Nat×Option (Option AObj))
 wr:List (Nat×Option (Option AObj))
 s:Slot

def y3f (v:Value):Slot := .dat (vval v)
def evS (f:Nat→Slot):Operand→Slot
 | .tmp t=>f t
 | .const v=>y3f v
 | _ => .any

def Stp (P:Program) (o:Oper) (f:Nat→Slot) (T:Tr):Prop:=
 ∀ (X:Ctx) (f':Nat→Slot) (own:Own) (g:Gh) (a:Act) (w:World) (Q:Exit→Act→World→Prop),Rel X f' own g a w→(∀ d,o.dst=some d→d < X.N) →
  (∀ x,x∈o.op.operands→evS f' x=evS f x)→(∀ q,q∈T.rd→own q.1=q.2) →
  ∀ K:Act→World→Prop,(∀ g' v w',Rel X (updS f' o.dst T.s) (upl own T.wr) g' (a.put o.dst v) w'→K (a.put o.dst v) w')→o.wp P a w K Q

def Wh (v:Value) (want:Bool):Bool:=match v with
 | .bool b=>b != want
 | _=>true
def z0z (P:Program) (ops:Array Oper) (o:Oper) (f:Nat→Slot) (own:Own) (T:Tr):Prop:=
 (match o.guard with
  | none=>T.skip=false
  | some (j,want)=>∃ d v,(ops[j]?).bind (·.dst)=some d∧f d = .dat (vval v)∧T.skip=Wh v want) ∧
 (T.skip=false→Stp P o f T∧(∀ q,q∈T.rd→own q.1=q.2))∧(T.skip=true→T.s = .dat (vval undef)∧T.rd=[]∧T.wr=[])∧(∀ k,k∈keys T.wr→k∈keys T.rd)

def Wf (ops:Array Oper) (T:Nat→Tr) (i:Nat):List (Nat×Slot):=match (ops[i]?).bind (·.dst) with | some d=>[(d,(T i).s)] | none=>[]
def Wo (T:Nat→Tr) (i:Nat):List (Nat×Option (Option AObj)):=(T i).wr

theorem z2t (f:Nat→Slot) (d:Option Nat) (s:Slot):updS f d s=upl f (match d with | some d=>[(d,s)] | none=>[]):=by
 cases d <;> rfl

def Yt (ops:Array Oper) (i:Nat):List Nat:=match ops[i]? with | some o=>o.looksAt ops | none=>[]
def z0v (ops:Array Oper) (i:Nat):List Nat:=match (ops[i]?).bind (·.dst) with | some d=>[d] | none=>[]
def Yq (a b:List Nat):Bool:=a.any fun x=>b.contains x
def ww (ops:Array Oper) (rd wr:Nat→List Nat) (i j:Nat):Bool:=
 Yq (z0v ops i) (Yt ops j) || Yq (z0v ops j) (Yt ops i) || Yq (z0v ops i) (z0v ops j) || Yq (wr i) (rd j) || Yq (rd i) (wr j)
def Zf (ops:Array Oper) (lg:List (List Nat×List Nat)):Bool:=
 (List.range ops.size).all fun j=>let an:=jk ops ops.size j
  (List.range j).all fun i => !ww ops (fun i=>(lg.getD i ([],[])).1) (fun i=>(lg.getD i ([],[])).2) i j || an.contains i
def Qa (ops:Array Oper):Bool:=
 (List.range ops.size).all fun i=>match ops[i]? with | some o=>o.after.toList.all fun e => !Region.binds .any e || Nat.blt e.on i | none=>true
def y33:Op→Bool
 | .defer _=>true
 | _=>false
def xw (N:Nat) (ops:Array Oper):Bool:=ops.toList.all fun o=>(match o.dst with | some d=>Nat.blt d N | none=>true) && !y33 o.op

theorem Zc {a b:List Nat} {x:Nat} (h1:x∈a) (h2:x∈b):Yq a b=true:=by
 unfold Yq
 rw [List.any_eq_true]
 exact ⟨x,h1,by simpa using h2⟩

def cnt (D:Nat→Bool):Nat→Nat
 | 0=>0
 | n+1=>cnt D n+(if D n then 0 else 1)
theorem x0s {D:Nat→Bool} {n:Nat} (h:cnt D n=0):∀ i,i < n→D i=true:=by
 induction n with
 | zero=>intro i hi; omega
 | succ n ih =>
  intro i hi
  simp only [cnt] at h
  rcases Nat.lt_or_ge i n with hl | hl
  ·exact ih (by omega) i hl
  ·obtain rfl:i=n:=by omega
   cases hd:D i
   ·rw [hd] at h; simp at h
   ·rfl
theorem y1c {D D' : Nat → Bool} {i n : Nat} (hin : i < n) (hD : D i = false) (hD' : ∀ j, D' j = (D j || decide (j = i))) : cnt D' n + 1 = cnt D n := by
  have h0 : ∀ m, m ≤ i → cnt D' m = cnt D m := by
    intro m
    induction m with
    | zero => intro _; rfl
    | succ m ih =>
      intro hm
      have : D' m = D m := by rw [hD' m]; have : m ≠ i := by omega
                              simp [this]
      simp only [cnt, this, ih (by omega)]
  have h1 : ∀ m, i < m → cnt D' m + 1 = cnt D m := by
    intro m
    induction m with
    | zero => intro h; omega
    | succ m ih =>
      intro hm
      by_cases hmi : m = i
      · subst hmi
        have e1 : D' m = true := by rw [hD' m]; simp
        simp only [cnt, e1, hD, h0 m (Nat.le_refl _)]; simp
      · have e1 : D' m = D m := by rw [hD' m]; simp [hmi]
        have h2 := ih (by omega)
        simp only [cnt, e1]; omega
  exact h1 n hin
end Go.Proofs.YtgdijjmdfcgifaaGreat
namespace Go.Proofs.YtgdijjmdfcgifaaGreat
open Go.RowKit
set_option linter.unusedVariables false

theorem z56 {β:Type} {W:Nat→List (Nat×β)} {D:Nat→Bool} {f:Nat→β} {n:Nat} (h:∀ j,j < n→D j=true):memD W D f n=memD W (fun _=>true) f n:=by
 funext k
 exact y8l fun j hj _=>h j hj
theorem z3l {β:Type} {W:Nat→List (Nat×β)} {D:Nat→Bool} {f:Nat→β} {n:Nat} (h:∀ j,D j=false):memD W D f n=f:=by
 induction n with
 | zero=>rfl
 | succ n ih=>simp [memD,h n,ih]
theorem y80 {D:Nat→Bool}:∀ (n i:Nat),i < n→D i=false→∃ m,m < n∧D m=false∧∀ j,j < m→D j=true:=by
 intro n
 induction n with
 | zero=>intro i hi; omega
 | succ n ih =>
  intro i hi hd
  by_cases h:∃ j,j < n∧D j=false
  ·obtain ⟨j,hj,hdj⟩:=h
   obtain ⟨m,h1,h2,h3⟩:=ih j hj hdj
   exact ⟨m,by omega,h2,h3⟩
  ·have hn:∀ j,j < n→D j=true:=fun j hj=>by
    cases hd':D j
    ·exact absurd ⟨j,hj,hd'⟩ h
    ·rfl
   rcases Nat.lt_or_ge i n with hl | hl
   ·rw [hn i hl] at hd; cases hd
   ·obtain rfl:i=n:=by omega
    exact ⟨i,by omega,hd,hn⟩

theorem Zs (n i:Nat):(Array.replicate n false).getD i false=false:=by
 rw [Array.getD_eq_getD_getElem?,Array.getElem?_replicate]
 split <;> rfl

def vb (v:Value):Option Bool:=match v with
 | .bool b=>some b
 | _=>none
theorem x1q {ops:Array Oper} {tmps:Array Value} {j d:Nat} (h:(ops[j]?).bind (·.dst)=some d):yielded ops tmps j=vb (tmps.getD d undef):=by
 unfold yielded
 rw [h,Array.getD_eq_getD_getElem?]
 simp only [Option.bind_some]
 cases tmps[d]? with
 | none=>rfl
 | some x=>cases x <;> rfl
theorem x1u (v:Value) (want:Bool):(vb v == some want) = !Wh v want:=by
 cases v <;> try rfl
 rename_i b
 cases b <;> cases want <;> rfl

section
variable {P:Program} {ops:Array Oper} {X:Ctx} {Q:Exit→Act→World→Prop}

theorem z7y {o:Oper} {f:Nat→Slot} {own:Own} {g:Gh} {a:Act} {w:World} {skip:Bool} (h:Rel X f own g a w)
  (hg:match o.guard with
   | none=>skip=false
   | some (j,want)=>∃ d v,(ops[j]?).bind (·.dst)=some d∧f d = .dat (vval v)∧skip=Wh v want) :
  Region.wanted o (yielded ops a.tmps) = !skip:=by
 unfold Region.wanted
 cases hgd:o.guard with
 | none=>rw [hgd] at hg; simp only at hg; rw [hg]; rfl
 | some q =>
  obtain ⟨j,want⟩:=q
  rw [hgd] at hg
  obtain ⟨d,v,h1,h2,h3⟩:=hg
  have hr:=h.fr d
  rw [h2] at hr
  have hv:a.tmps.getD d undef=v:=hr
  simp only [x1q h1,hv,h3]
  exact x1u v want

theorem z00 {r:Option Nat} {o:Oper} {a:Act} {w:World} {K:Act→World→Prop} (hd:y33 o.op=false) (h:o.wp P a w K Q):o.wpIn (FR r) 0 P a w K Q:=by
 refine ⟨fun _ _=>trivial,?_⟩
 rw [Oper.semAt_eq r a.eval o (fun c hc=>by rw [hc] at hd; cases hd)]
 unfold Oper.wp at h
 generalize (execOp a.eval o).run P w=x at h
 cases x with
 | ok x w' =>
  cases x <;> first
   | exact h
   | exact h.elim
   | exact ⟨fun h=>by simp [Fence.wide] at h,(callsIn_wide (n:=0)).2 h⟩
   | exact ⟨fun h=>by simp [Fence.wide] at h,fun c cs _=>let ⟨v,w',r,s⟩:=h c cs; ⟨v,w',r,stepsIn_wide.2 s⟩⟩
 | halt x w' =>
  cases x <;> exact h
theorem z1o {N:Nat} (hN:xw N ops=true) {i:Nat} {o:Oper} (ho:ops[i]?=some o):(∀ d,o.dst=some d→d < N)∧y33 o.op=false:=by
 unfold xw at hN
 rw [List.all_eq_true] at hN
 have h2:=hN o (Array.mem_toList_iff.2 (Array.mem_of_getElem? ho))
 rw [Bool.and_eq_true,Bool.not_eq_true'] at h2
 refine ⟨fun d hd => ?_,h2.2⟩
 have h3:=h2.1
 rw [hd] at h3
 simpa [Nat.blt_eq] using h3
theorem x56 (T:Nat→Tr) (f:Nat→Slot) (own:Own) (hE:Qa ops=true) (hN:xw X.N ops=true)
  (hT:∀ i o,ops[i]?=some o→z0z P ops o (memD (Wf ops T) (fun _=>true) f i) (memD (Wo T) (fun _=>true) own i) (T i))
  (hC:∀ i j,i < j→j < ops.size→ww ops (fun i=>keys (T i).rd) (fun i=>keys (T i).wr) i j=true→i∈jk ops ops.size j)
  (hQ:∀ g a w,Rel X (memD (Wf ops T) (fun _=>true) f ops.size) (memD (Wo T) (fun _=>true) own ops.size) g a w→Q .normal a w) :
  ∀ (fuel:Nat) (listed:Array Bool) (g:Gh) (a:Act) (w:World),listed.size=ops.size→cnt (fun i=>listed.getD i false) ops.size=fuel →
   (∀ j o,ops[j]?=some o→listed.getD j false=true→∀ e∈o.after,Region.binds .any e=true→listed.getD e.on false=true) →
   Rel X (memD (Wf ops T) (fun i=>listed.getD i false) f ops.size) (memD (Wo T) (fun i=>listed.getD i false) own ops.size) g a w→wpAnyIn (FR X.R) 0 P .any ops Q fuel listed a w:=by
 have hget:∀ (listed:Array Bool) i,listed.size=ops.size→i < ops.size→listed.getD i true=listed.getD i false:=by
  intro listed i hs hi
  rw [Array.getD_eq_getD_getElem?,Array.getD_eq_getD_getElem?,Array.getElem?_eq_getElem (by omega)]
  rfl
 intro fuel
 induction fuel with
 | zero =>
  intro listed g a w hs hc hd hr
  have hall:=x0s hc
  refine ⟨?_,?_⟩
  ·refine List.eq_nil_iff_forall_not_mem.2 fun i hi => ?_
   obtain ⟨h1,o,ho,_⟩:=mem_ready.1 hi
   have hlt:i < ops.size:=(Array.getElem?_eq_some_iff.1 ho).1
   rw [hget listed i hs hlt,hall i hlt] at h1
   cases h1
  ·rw [z56 hall,z56 hall] at hr
   exact hQ g a w hr
 | succ fuel ih =>
  intro listed g a w hs hc hd hr
  refine ⟨fun hnil => ?_,fun i hi => ?_⟩
  ·exfalso
   by_cases hex:∃ i,i < ops.size∧listed.getD i false=false
   ·obtain ⟨i,h1,h2⟩:=hex
    obtain ⟨m,h3,h4,h5⟩:=y80 (D:=fun i=>listed.getD i false) ops.size i h1 h2
    have hm:m∈Region.ready .any ops listed:=by
     refine mem_ready.2 ⟨by rw [hget listed m hs h3]; exact h4,ops[m],Array.getElem?_eq_getElem h3,fun e he hb => ?_⟩
     unfold Qa at hE
     rw [List.all_eq_true] at hE
     have h6:=hE m (List.mem_range.2 h3)
     rw [Array.getElem?_eq_getElem h3] at h6
     rw [List.all_eq_true] at h6
     have h7:=h6 e (Array.mem_toList_iff.2 he)
     rw [hb] at h7
     have h8:e.on < m:=by simpa [Nat.blt_eq] using h7
     exact h5 e.on h8
    rw [hnil] at hm
    cases hm
   ·have hz:∀ i,i < ops.size→listed.getD i false=true:=fun i hi=>by
     cases h:listed.getD i false
     ·exact absurd ⟨i,hi,h⟩ hex
     ·rfl
    have:∀ n,n≤ops.size→cnt (fun i=>listed.getD i false) n=0:=by
     intro n
     induction n with
     | zero=>intro _; rfl
     | succ n ihn=>intro hn; simp only [cnt,ihn (by omega),hz n (by omega)]; rfl
    rw [this ops.size (Nat.le_refl _)] at hc
    omega
  ·obtain ⟨h1,o,ho,hall⟩:=mem_ready.1 hi
   have hlt:i < ops.size:=(Array.getElem?_eq_some_iff.1 ho).1
   rw [hget listed i hs hlt] at h1
   obtain ⟨hgd,hrun,hskip,hsub⟩:=hT i o ho
   -- who is ahead of i is done; who is behind is not
   have hfore:∀ j,i∈jk ops ops.size j→listed.getD j false=false:=fun j hj=>by
    cases h:listed.getD j false
    ·rfl
    ·have:=z7v (D:=fun i=>listed.getD i false) hd ops.size j i hj h
     simp only [h1] at this
     cases this
   have hback:∀ j,j∈jk ops ops.size i→listed.getD j false=true:=by
    intro j hj
    have hD2:∀ j' o',ops[j']?=some o'→(fun x=>listed.getD x false || decide (x=i)) j'=true→∀ e∈o'.after,Region.binds .any e=true→(fun x=>listed.getD x false || decide (x=i)) e.on=true:=by
     intro j' o' ho' hj' e he hb
     by_cases hji:j'=i
     ·subst hji
      rw [ho] at ho'
      cases ho'
      simp only [hall e he hb,Bool.true_or]
     ·have:listed.getD j' false=true:=by simpa [hji] using hj'
      simp only [hd j' o' ho' this e he hb,Bool.true_or]
    have h2:=z7v hD2 ops.size i j hj (by simp)
    by_cases hji:j=i
    ·subst hji
     have:=hfore j hj
     exfalso
     have hlt2:∀ n q,q∈jk ops n j→q < j:=by
      have hE':=hE
      unfold Qa at hE'
      rw [List.all_eq_true] at hE'
      have key:∀ n m q,m < ops.size→q∈jk ops n m→q < m:=by
       intro n
       induction n with
       | zero=>intro m q _ h; cases h
       | succ n ihn =>
        intro m q hm h
        unfold jk at h
        rw [Array.getElem?_eq_getElem hm] at h
        simp only [List.mem_flatMap,Array.mem_toList_iff] at h
        obtain ⟨e,he,hq⟩:=h
        by_cases hb:Region.binds .any e=true
        ·rw [if_pos hb] at hq
         have h6:=hE' m (List.mem_range.2 hm)
         rw [Array.getElem?_eq_getElem hm] at h6
         rw [List.all_eq_true] at h6
         have h7:=h6 e (Array.mem_toList_iff.2 he)
         rw [hb] at h7
         have h8:e.on < m:=by simpa [Nat.blt_eq] using h7
         rcases List.mem_cons.1 hq with rfl | hq
         ·exact h8
         ·have:=ihn e.on q (by omega) hq
          omega
        ·rw [if_neg hb] at hq; cases hq
      exact fun n q hq=>key n j q hlt hq
     have:=hlt2 _ _ hj
     omega
    ·simpa [hji] using h2
   have hcl1:∀ j,j < i→ww ops (fun i=>keys (T i).rd) (fun i=>keys (T i).wr) j i=true→listed.getD j false=true:=fun j hj hc=>hback j (hC j i hj hlt hc)
   have hcl2:∀ j,i < j→j < ops.size→ww ops (fun i=>keys (T i).rd) (fun i=>keys (T i).wr) i j=true→listed.getD j false=false:=fun j hj hjn hc=>hfore j (hC i j hj hjn hc)
   have hself:∀ j,i≤j→j < ops.size→ww ops (fun i=>keys (T i).rd) (fun i=>keys (T i).wr) i j=true→listed.getD j false=false:=fun j hj hjn hc=>by
    rcases Nat.lt_or_ge i j with h | h
    ·exact hcl2 j h hjn hc
    ·obtain rfl:i=j:=by omega
     exact h1
   have hkf:∀ j d,d∈keys (Wf ops T j)→d∈z0v ops j:=by
    intro j d hd
    unfold Wf at hd
    unfold z0v
    cases hq:(ops[j]?).bind (·.dst) with
    | none=>rw [hq] at hd; cases hd
    | some d'=>rw [hq] at hd; simpa [keys] using hd
   have hlooks:Yt ops i=o.looksAt ops:=by simp [Yt,ho]
   have hf:∀ t,t∈Yt ops i→memD (Wf ops T) (fun i=>listed.getD i false) f ops.size t=memD (Wf ops T) (fun _=>true) f i t:=fun t ht =>
    z9s (Nat.le_of_lt hlt)
     (fun j hj hk=>hcl1 j hj (by unfold ww; rw [Zc (hkf j t hk) ht]; simp))
     (fun j hj hjn hk=>hself j hj hjn (by unfold ww; rw [Zc (hkf j t hk) ht]; simp))
   have ho':∀ q,q∈keys (T i).rd→memD (Wo T) (fun i=>listed.getD i false) own ops.size q=memD (Wo T) (fun _=>true) own i q:=fun q hq =>
    z9s (Nat.le_of_lt hlt)
     (fun j hj hk=>hcl1 j hj (by unfold ww; rw [Zc (a:=keys (T j).wr) hk hq]; simp))
     (fun j hj hjn hk=>hself j hj hjn (by unfold ww; rw [Zc (b:=keys (T j).wr) hq hk]; simp))
   -- the next state
   have hset:∀ j,(listed.setIfInBounds i true).getD j false=(listed.getD j false || decide (j=i)):=by
    intro j
    rw [Array.getD_eq_getD_getElem?,Array.getD_eq_getD_getElem?,Array.getElem?_setIfInBounds]
    by_cases hj:i=j
    ·subst hj; simp [hs,hlt]
    ·rw [if_neg hj]; simp [Ne.symm hj]
   have hmf:memD (Wf ops T) (fun j=>(listed.setIfInBounds i true).getD j false) f ops.size=updS (memD (Wf ops T) (fun i=>listed.getD i false) f ops.size) o.dst (T i).s:=by
    rw [z3k hlt h1 hset,z2t]
    ·unfold Wf; rw [ho]; rfl
    ·intro j hj hjn hDj k hk1 hk2
     have:=hcl2 j hj hjn (by unfold ww; rw [Zc (hkf i k hk1) (hkf j k hk2)]; simp)
     rw [this] at hDj; cases hDj
   have hmo:memD (Wo T) (fun j=>(listed.setIfInBounds i true).getD j false) own ops.size=upl (memD (Wo T) (fun i=>listed.getD i false) own ops.size) (T i).wr:=by
    rw [z3k hlt h1 hset]
    ·rfl
    ·intro j hj hjn hDj k hk1 hk2
     have hjo:∃ oj,ops[j]?=some oj:=⟨ops[j],Array.getElem?_eq_getElem hjn⟩
     obtain ⟨oj,hoj⟩:=hjo
     have:=hcl2 j hj hjn (by unfold ww; rw [Zc (a:=keys (T i).wr) hk1 ((hT j oj hoj).2.2.2 k hk2)]; simp)
     rw [this] at hDj; cases hDj
   have hnext:∀ g' v w',Rel X (updS (memD (Wf ops T) (fun i=>listed.getD i false) f ops.size) o.dst (T i).s) (upl (memD (Wo T) (fun i=>listed.getD i false) own ops.size) (T i).wr) g' (a.put o.dst v) w' →
     wpAnyIn (FR X.R) 0 P .any ops Q fuel (listed.setIfInBounds i true) (a.put o.dst v) w':=by
    intro g' v w' hr'
    refine ih _ g' _ w' (by simpa using hs) ?_ ?_ ?_
    ·have:=y1c (D:=fun i=>listed.getD i false) hlt h1 hset
     omega
    ·intro j o' ho'' hj e he hb
     rw [hset] at hj ⊢
     by_cases hji:j=i
     ·subst hji
      rw [ho] at ho''
      cases ho''
      rw [hall e he hb]; rfl
     ·have:listed.getD j false=true:=by simpa [hji] using hj
      rw [hd j o' ho'' this e he hb]; rfl
    ·rw [hmf,hmo]; exact hr'
   obtain ⟨hdN,hdf⟩:=z1o hN ho
   unfold wpOpIn
   rw [ho]
   have hw:Region.wanted o (yielded ops a.tmps) = !(T i).skip:=by
    refine z7y hr ?_
    cases hgo:o.guard with
    | none=>rw [hgo] at hgd; exact hgd
    | some q =>
     obtain ⟨j,want⟩:=q
     rw [hgo] at hgd
     obtain ⟨d,v,g1,g2,g3⟩:=hgd
     refine ⟨d,v,g1,?_,g3⟩
     rw [hf d (by rw [hlooks]; unfold Oper.looksAt; rw [hgo]; simp [g1])]
     exact g2
   cases hsk:(T i).skip with
   | false =>
    rw [hsk] at hw
    simp only [hw,Bool.not_false,if_true]
    obtain ⟨hst,hrd⟩:=hrun hsk
    refine z00 hdf (hst X _ _ g a w Q hr hdN (fun x hx => ?_) (fun q hq => ?_) _ hnext)
    ·cases x with
     | tmp t=>exact hf t (by rw [hlooks]; unfold Oper.looksAt; rw [List.mem_append]; exact .inl (List.mem_filterMap.2 ⟨_,by simpa using hx,rfl⟩))
     | _=>rfl
    ·rw [ho' q.1 (List.mem_map.2 ⟨q,hq,rfl⟩)]
     exact hrd q hq
   | true =>
    rw [hsk] at hw
    simp only [hw,Bool.not_true,Bool.false_eq_true,if_false]
    obtain ⟨e1,e2,e3⟩:=hskip hsk
    refine ⟨fun _ _=>trivial,hnext g undef w ?_⟩
    rw [e1,e3]
    exact hr.put o.dst (.dat (vval undef)) undef hdN rfl

def seqA (P:Program) (ops:Array Oper):List Oper→(Nat→Slot)→Own→List (List Nat×List Nat)→((Nat→Slot)→Own→List (List Nat×List Nat)→Prop)→Prop
 | [],f,own,lg,K=>K f own lg
 | o::os,f,own,lg,K=>∃ T:Tr,z0z P ops o f own T∧seqA P ops os (updS f o.dst T.s) (upl own T.wr) ((keys T.rd,keys T.wr)::lg) K

theorem y68:∀ (os:List Oper) (i:Nat) (T:Nat→Tr) (f:Nat→Slot) (own:Own) (lg:List (List Nat×List Nat)) (K:(Nat→Slot)→Own→List (List Nat×List Nat)→Prop),
  ops.toList.drop i=os→i≤ops.size→lg.length=i→(∀ j,j < i→lg.reverse[j]?=some (keys (T j).rd,keys (T j).wr)) →
  seqA P ops os (memD (Wf ops T) (fun _=>true) f i) (memD (Wo T) (fun _=>true) own i) lg K →
  ∃ (T':Nat→Tr) (lg':List (List Nat×List Nat)),(∀ j,j < i→T' j=T j)∧lg'.length=ops.size∧(∀ j,j < ops.size→lg'.reverse[j]?=some (keys (T' j).rd,keys (T' j).wr)) ∧
   (∀ j o,i≤j→ops[j]?=some o→z0z P ops o (memD (Wf ops T') (fun _=>true) f j) (memD (Wo T') (fun _=>true) own j) (T' j)) ∧
   K (memD (Wf ops T') (fun _=>true) f ops.size) (memD (Wo T') (fun _=>true) own ops.size) lg':=by
 intro os
 induction os with
 | nil =>
  intro i T f own lg K hos hi hl hlg h
  have hle:ops.size≤i:=by
   have h2:=congrArg List.length hos
   simp only [List.length_drop,List.length_nil,Array.length_toList] at h2
   omega
  obtain rfl:i=ops.size:=by omega
  refine ⟨T,lg,fun _ _=>rfl,hl,hlg,fun j o hj ho => ?_,h⟩
  have:=(Array.getElem?_eq_some_iff.1 ho).1
  omega
 | cons o os ih =>
  intro i T f own lg K hos hi hl hlg h
  have hlt:i < ops.size:=by
   have h2:=congrArg List.length hos
   simp only [List.length_drop,List.length_cons,Array.length_toList] at h2
   omega
  have hoi:ops[i]?=some o:=by
   have h2:=List.drop_eq_getElem_cons (l:=ops.toList) (i:=i) (by simpa using hlt)
   rw [hos] at h2
   injection h2 with h3 h4
   rw [Array.getElem?_eq_getElem hlt]
   exact congrArg some h3.symm
  have hos':ops.toList.drop (i+1)=os:=by
   have h2:=List.drop_eq_getElem_cons (l:=ops.toList) (i:=i) (by simpa using hlt)
   rw [hos] at h2
   injection h2 with h3 h4
   exact h4.symm
  obtain ⟨t,h1,h2⟩:=h
  let T1:Nat→Tr:=fun j=>if j=i then t else T j
  have hT1:∀ j,j < i→T1 j=T j:=fun j hj=>if_neg (by omega)
  have hT1i:T1 i=t:=if_pos rfl
  have hmF:∀ m,m≤i→memD (Wf ops T1) (fun _=>true) f m=memD (Wf ops T) (fun _=>true) f m:=by
   intro m
   induction m with
   | zero=>intro _; rfl
   | succ m ihm =>
    intro hm
    have:Wf ops T1 m=Wf ops T m:=by unfold Wf; rw [hT1 m (by omega)]
    simp only [memD,if_true,ihm (by omega),this]
  have hmO:∀ m,m≤i→memD (Wo T1) (fun _=>true) own m=memD (Wo T) (fun _=>true) own m:=by
   intro m
   induction m with
   | zero=>intro _; rfl
   | succ m ihm =>
    intro hm
    have:Wo T1 m=Wo T m:=by unfold Wo; rw [hT1 m (by omega)]
    simp only [memD,if_true,ihm (by omega),this]
  have eF:memD (Wf ops T1) (fun _=>true) f (i+1)=updS (memD (Wf ops T) (fun _=>true) f i) o.dst t.s:=by
   simp only [memD,if_true,hmF i (Nat.le_refl _),z2t]
   unfold Wf; rw [hoi,hT1i]; rfl
  have eO:memD (Wo T1) (fun _=>true) own (i+1)=upl (memD (Wo T) (fun _=>true) own i) t.wr:=by
   simp only [memD,if_true,hmO i (Nat.le_refl _)]
   unfold Wo; rw [hT1i]
  rw [← eF,← eO] at h2
  obtain ⟨T',lg',a1,a2,a3,a4,a5⟩:=ih (i+1) T1 f own _ K hos' hlt (by simp [hl]) (fun j hj=>by
   rw [List.reverse_cons]
   rcases Nat.lt_or_ge j i with hl' | hl'
   ·rw [List.getElem?_append_left (by simp; omega),hlg j hl',hT1 j hl']
   ·obtain rfl:j=i:=by omega
    rw [List.getElem?_append_right (by simp [hl]),hT1i]; simp [hl]) h2
  refine ⟨T',lg',fun j hj=>(a1 j (by omega)).trans (hT1 j hj),a2,a3,fun j o' hj ho' => ?_,a5⟩
  rcases Nat.lt_or_ge i j with hl' | hl'
  ·exact a4 j o' hl' ho'
  ·obtain rfl:j=i:=by omega
   rw [hoi] at ho'
   cases ho'
   have e1:T' j=t:=(a1 j (by omega)).trans hT1i
   have eF':memD (Wf ops T') (fun _=>true) f j=memD (Wf ops T) (fun _=>true) f j:=by
    have:∀ m,m≤j→memD (Wf ops T') (fun _=>true) f m=memD (Wf ops T) (fun _=>true) f m:=by
     intro m
     induction m with
     | zero=>intro _; rfl
     | succ m ihm =>
      intro hm
      have:Wf ops T' m=Wf ops T m:=by unfold Wf; rw [a1 m (by omega),hT1 m (by omega)]
      simp only [memD,if_true,ihm (by omega),this]
    exact this j (Nat.le_refl _)
   have eO':memD (Wo T') (fun _=>true) own j=memD (Wo T) (fun _=>true) own j:=by
    have:∀ m,m≤j→memD (Wo T') (fun _=>true) own m=memD (Wo T) (fun _=>true) own m:=by
     intro m
     induction m with
     | zero=>intro _; rfl
     | succ m ihm =>
      intro hm
      have:Wo T' m=Wo T m:=by unfold Wo; rw [a1 m (by omega),hT1 m (by omega)]
      simp only [memD,if_true,ihm (by omega),this]
    exact this j (Nat.le_refl _)
   rw [e1,eF',eO']
   exact h1
end

def AWP (P:Program) (X:Ctx) (c:Code) (Q:Exit→(Nat→Slot)→Own→Prop) (f:Nat→Slot) (own:Own):Prop:=
 ∀ (g:Gh) (a:Act) (w:World),Rel X f own g a w→c.wpIn (FR X.R) 0 P (fun e a' w'=>∃ f' own' g',Rel X f' own' g' a' w'∧Q e f' own') a w

theorem yo {P:Program} {X:Ctx} {id:Nat} {ops:Array Oper} {Q:Exit→(Nat→Slot)→Own→Prop} {f:Nat→Slot} {own:Own} {N:Nat} (hm:P.follows .mixedOrders=true)
  (hX:X.N=N) (hE:Qa ops=true) (hN:xw N ops=true) (h:seqA P ops ops.toList f own [] fun f' own' lg=>Zf ops lg.reverse=true∧Q .normal f' own'):AWP P X (.region id ops true) Q f own:=by
 subst hX
 intro g a w hr
 refine wpIn_region_any hm ?_
 obtain ⟨T,lg,_,a2,a3,a4,a5,a6⟩:=y68 (P:=P) (ops:=ops) ops.toList 0 (fun _=>⟨false,[],[],.any⟩) f own [] _ rfl (Nat.zero_le _) rfl (fun j hj=>absurd hj (by omega)) h
 refine x56 (X:=X) T f own hE hN (fun i o ho=>a4 i o (Nat.zero_le _) ho) (fun i j hij hjn hc => ?_) (fun g a w hr=>⟨_,_,g,hr,a6⟩) _ _ g a _ (by simp) ?_ (fun j o ho hj => ?_) ?_
 ·unfold Zf at a5
  rw [List.all_eq_true] at a5
  have h1:=a5 j (List.mem_range.2 hjn)
  rw [List.all_eq_true] at h1
  have h2:=h1 i (List.mem_range.2 hij)
  have e1:∀ q,q < ops.size→lg.reverse.getD q ([],[])=(keys (T q).rd,keys (T q).wr):=fun q hq=>by
   rw [List.getD_eq_getElem?_getD,a3 q hq]; rfl
  have e2:ww ops (fun i=>(lg.reverse.getD i ([],[])).1) (fun i=>(lg.reverse.getD i ([],[])).2) i j=ww ops (fun i=>keys (T i).rd) (fun i=>keys (T i).wr) i j:=by
   unfold ww
   simp only [e1 i (by omega),e1 j hjn]
  rw [e2,hc] at h2
  simpa using h2
 ·have:∀ n,n≤ops.size→cnt (fun i=>(Array.replicate ops.size false).getD i false) n=n:=by
   intro n
   induction n with
   | zero=>intro _; rfl
   | succ n ih =>
    intro hn
    have:(Array.replicate ops.size false).getD n false=false:=Zs _ _
    simp only [cnt,ih (by omega),this]; rfl
  exact this _ (Nat.le_refl _)
 ·have:(Array.replicate ops.size false).getD j false=false:=Zs _ _
  rw [this] at hj; cases hj
 ·have hz:∀ j,(fun i=>(Array.replicate ops.size false).getD i false) j=false:=fun j=>Zs _ _
  rw [z3l hz,z3l hz]
  exact hr.grow (Kp.refl [] w).drew

theorem y69 {P:Program} {X:Ctx} {ops:Array Oper} {Q:Exit→(Nat→Slot)→Own→Prop} (hN:xw X.N ops=true) :
  ∀ (os:List Oper) (i:Nat) (f:Nat→Slot) (own:Own) (lg:List (List Nat×List Nat)) (g:Gh) (a:Act) (w:World),ops.toList.drop i=os→Rel X f own g a w →
   seqA P ops os f own lg (fun f' own' _=>Q .normal f' own') →
   wpOpsIn (FR X.R) 0 P ops (fun e a' w'=>∃ f' own' g',Rel X f' own' g' a' w'∧Q e f' own') ((List.range' i os.length)) a w:=by
 intro os
 induction os with
 | nil=>intro i f own lg g a w _ hr h; exact ⟨f,own,g,hr,h⟩
 | cons o os ih =>
  intro i f own lg g a w hos hr h
  have hlt:i < ops.size:=by
   have h2:=congrArg List.length hos
   simp only [List.length_drop,List.length_cons,Array.length_toList] at h2
   omega
  have h2:=List.drop_eq_getElem_cons (l:=ops.toList) (i:=i) (by simpa using hlt)
  rw [hos] at h2
  injection h2 with h3 h4
  have hoi:ops[i]?=some o:=by
   rw [Array.getElem?_eq_getElem hlt]
   exact congrArg some h3.symm
  obtain ⟨T,⟨hgd,hrun,hskip,_⟩,h6⟩:=h
  obtain ⟨hdN,hdf⟩:=z1o hN hoi
  rw [List.length_cons,List.range'_succ,wpOpsIn_cons]
  unfold wpOpIn
  rw [hoi]
  have hw:Region.wanted o (yielded ops a.tmps) = !T.skip:=z7y hr hgd
  cases hsk:T.skip with
  | false =>
   rw [hsk] at hw
   simp only [hw,Bool.not_false,if_true]
   obtain ⟨hst,hrd⟩:=hrun hsk
   exact z00 hdf (hst X _ _ g a w _ hr hdN (fun x _=>rfl) hrd _ (fun g' v w' hr'=>ih (i+1) _ _ _ g' _ w' h4.symm hr' h6))
  | true =>
   rw [hsk] at hw
   simp only [hw,Bool.not_true,Bool.false_eq_true,if_false]
   obtain ⟨e1,e2,e3⟩:=hskip hsk
   refine ⟨fun _ _=>trivial,ih (i+1) _ _ _ g _ w h4.symm ?_ h6⟩
   rw [e1,e3]
   exact hr.put o.dst (.dat (vval undef)) undef hdN rfl

theorem zm {P:Program} {X:Ctx} {id:Nat} {ops:Array Oper} {Q:Exit→(Nat→Slot)→Own→Prop} {f:Nat→Slot} {own:Own}
  {N:Nat} (hX:X.N=N) (hN:xw N ops=true) (h:seqA P ops ops.toList f own [] fun f' own' _=>Q .normal f' own'):AWP P X (.region id ops false) Q f own:=by
 subst hX
 intro g a w hr
 refine wpIn_region ?_
 have:=y69 (P:=P) (X:=X) (Q:=Q) hN ops.toList 0 f own [] g a w rfl hr h
 rw [Array.length_toList,← List.range_eq_range'] at this
 exact this
end Go.Proofs.YtgdijjmdfcgifaaGreat
namespace Go.Proofs.YtgdijjmdfcgifaaGreat
open Go.RowKit
set_option linter.unusedVariables false

section code
variable {P:Program} {X:Ctx} {Q:Exit→(Nat→Slot)→Own→Prop} {f:Nat→Slot} {own:Own}

theorem Qc {c:Code} {Q':Exit→(Nat→Slot)→Own→Prop} (h:AWP P X c Q' f own) (hq:∀ e f own,Q' e f own→Q e f own):AWP P X c Q f own:=
 fun g a w hr=>wpIn_mono (h g a w hr) fun e a' w' ⟨f',own',g',h1,h2⟩=>⟨f',own',g',h1,hq _ _ _ h2⟩
theorem zd {x y:Code} (h:AWP P X x (fun e f own=>match e with | .normal=>AWP P X y Q f own | e=>Q e f own) f own):AWP P X (.seq x y) Q f own:=by
 intro g a w hr
 refine wpIn_seq (wpIn_mono (h g a w hr) ?_)
 rintro e a' w' ⟨f',own',g',h1,h2⟩
 cases e with
 | normal=>exact h2 g' a' w' h1
 | exit id=>exact ⟨f',own',g',h1,h2⟩
 | goto l=>exact ⟨f',own',g',h1,h2⟩
 | ret=>exact ⟨f',own',g',h1,h2⟩
 | panic ch=>exact ⟨f',own',g',h1,h2⟩
 | outgrown=>exact ⟨f',own',g',h1,h2⟩
theorem zp (h:Q .normal f own):AWP P X .skip Q f own:=fun g a w hr=>wpIn_skip ⟨f,own,g,hr,h⟩
theorem zo (h:Q .ret f own):AWP P X .ret Q f own:=fun g a w hr=>wpIn_ret ⟨f,own,g,hr,h⟩
theorem qa {id:Nat} (h:Q (.exit id) f own):AWP P X (.exit id) Q f own:=fun g a w hr=>wpIn_exit ⟨f,own,g,hr,h⟩
theorem zw {id:Nat} {c:Code} (h:AWP P X c (fun e f own=>match e with | .exit i=>if i=id then Q .normal f own else Q (.exit i) f own | e=>Q e f own) f own):AWP P X (.block id c) Q f own:=by
 intro g a w hr
 refine wpIn_block (wpIn_mono (h g a w hr) ?_)
 rintro e a' w' ⟨f',own',g',h1,h2⟩
 cases e with
 | exit i =>
  have h3:(if i=id then Q .normal f' own' else Q (.exit i) f' own'):=h2
  simp only [Exit.inBlock]
  split
  ·rename_i hi; rw [if_pos hi] at h3; exact ⟨f',own',g',h1,h3⟩
  ·rename_i hi; rw [if_neg hi] at h3; exact ⟨f',own',g',h1,h3⟩
 | normal=>exact ⟨f',own',g',h1,h2⟩
 | goto l=>exact ⟨f',own',g',h1,h2⟩
 | ret=>exact ⟨f',own',g',h1,h2⟩
 | panic ch=>exact ⟨f',own',g',h1,h2⟩
 | outgrown=>exact ⟨f',own',g',h1,h2⟩

theorem Rel.ev {g:Gh} {a:Act} {w:World} (h:Rel X f own g a w) (x:Operand):RepS g w (Mof X g own) (evS f x) (a.eval x):=by
 cases x with
 | tmp t=>exact h.fr t
 | const v =>
  exact (rfl:v=v)
 | global _=>trivial
 | func _=>trivial

theorem zk {c:Operand} {x y:Code} (b:Bool) (hc:evS f c = .dat (vval (.bool b))) (ht:b=true→AWP P X x Q f own) (hf:b=false→AWP P X y Q f own):AWP P X (.cond c x y) Q f own:=by
 intro g a w hr
 have h1:=hr.ev c
 rw [hc] at h1
 have h2:a.eval c = .bool b:=h1
 exact wpIn_cond_split h2 (fun h=>ht h g a w hr) (fun h=>hf h g a w hr)

def frs (l:List (Nat×Slot)):Nat→Slot:=upl (fun _ => .any) l
def ows (l:List (Nat×AObj)):Own:=upl (fun _=>none) (l.map fun p=>(p.1,some (some p.2)))

def qp (own:Own) (id:Nat):Bool:=match own id with
 | some (some _)=>true
 | _=>false
def okC (own:Own):Cmp→Bool
 | .dat _=>true
 | .ptr id _=>qp own id
 | .row id _=>qp own id
 | .mp id=>qp own id
def okS (own:Own):Slot→Bool
 | .any=>true
 | .dat _=>true
 | .ptr id _=>qp own id
 | .row id _=>qp own id
 | .rptr id _ _ _ _=>qp own id
 | .mp id=>qp own id
 | .rsub id _ _ _=>qp own id
 | .nptr id=>qp own id
 | .dr id _=>qp own id
 | .comp _ cs=>cs.all (okC own)
def okO (own:Own):AObj→Bool
 | .box _ _ cs=>cs.all (okS own)
 | .row _ _ _=>true
 | .opq _ _=>true
 | .rowA _ _ _ _=>true
theorem jy {own:Own} {id:Nat} (h:qp own id=true):∃ o,own id=some (some o):=by
 unfold qp at h
 split at h
 ·rename_i o ho; exact ⟨o,ho⟩
 ·cases h
def subF (f:Nat→Slot):List (Nat×Slot)→Prop
 | []=>True
 | (t,s)::l=>s=f t∧subF f l
def subO (own:Own):List (Nat×AObj)→Prop
 | []=>True
 | (id,o)::l=>own id=some (some o)∧subO own l
def okL (lf:List (Nat×Slot)) (lo:List (Nat×AObj)):Bool:=lf.all (fun p=>okS (ows lo) p.2) && lo.all (fun p=>okO (ows lo) p.2)

theorem x3w {own':Own}:∀ (l:List (Nat×Slot)),subF f l→l.all (fun p=>okS own' p.2)=true→∀ t,frs l t = .any∨(frs l t=f t∧okS own' (frs l t)=true):=by
 intro l
 induction l with
 | nil=>intro _ _ t; exact .inl rfl
 | cons p l ih =>
  obtain ⟨k,s⟩:=p
  intro h ho t
  simp only [List.all_cons,Bool.and_eq_true] at ho
  unfold frs
  simp only [upl]
  by_cases hk:t=k
  ·subst hk
   have:Nat.beq t t=true:=by simp
   simp only [this,cond_true]
   exact .inr ⟨h.1,ho.1⟩
  ·simp only [qu hk,cond_false]
   exact ih h.2 ho.2 t
theorem x3v {own':Own}:∀ (l:List (Nat×AObj)),subO own l→l.all (fun p=>okO own' p.2)=true→∀ id,ows l id=none∨∃ o,ows l id=some (some o)∧own id=some (some o)∧okO own' o=true:=by
 intro l
 induction l with
 | nil=>intro _ _ t; exact .inl rfl
 | cons p l ih =>
  obtain ⟨k,s⟩:=p
  intro h ho t
  simp only [List.all_cons,Bool.and_eq_true] at ho
  unfold ows
  simp only [List.map_cons,upl]
  by_cases hk:t=k
  ·subst hk
   have:Nat.beq t t=true:=by simp
   simp only [this,cond_true]
   exact .inr ⟨s,rfl,h.1,ho.1⟩
  ·simp only [qu hk,cond_false]
   exact ih h.2 ho.2 t

theorem Rel.less {g:Gh} {a:Act} {w:World} (h:Rel X f own g a w) (lf:List (Nat×Slot)) (lo:List (Nat×AObj)) (hf:subF f lf) (ho:subO own lo) (hok:okL lf lo=true) :
  ∃ g',Rel X (frs lf) (ows lo) g' a w:=by
 classical
 simp only [okL,Bool.and_eq_true] at hok
 have hF:=x3w lf hf hok.1
 have hO:=x3v lo ho hok.2
 have hlive:∀ id o,ows lo id=some (some o)→own id=some (some o)∧okO (ows lo) o=true:=fun id o h1=>by
  rcases hO id with h2 | ⟨o',h2,h3,h4⟩
  ·rw [h2] at h1; cases h1
  ·rw [h2] at h1; cases h1; exact ⟨h3,h4⟩
 let g':Gh:=⟨fun id=>if ows lo id=none then none else g.bl id,fun id n=>if ows lo id=none then none else g.sv id n⟩
 have gb:∀ id,ows lo id≠none→g'.bl id=g.bl id:=fun id hn=>if_neg hn
 have gs:∀ id n,ows lo id≠none→g'.sv id n=g.sv id n:=fun id n hn=>if_neg hn
 have hne:∀ id o,ows lo id=some (some o)→ows lo id≠none:=fun id o h1=>by rw [h1]; simp
 have hobk:∀ id o o',ows lo id=some (some o')→obk g' id o=obk g id o:=fun id o o' h1=>by
  cases o with
  | box an t cs=>exact gb id (hne id o' h1)
  | row e size es=>simp only [obk,gs id _ (hne id o' h1)]
  | opq an R=>exact gb id (hne id o' h1)
  | rowA v e size es=>rfl
 have hM:∀ b,Mof X g' (ows lo) b→Mof X g own b:=fun b hb=>by
  rcases hb with hb | ⟨id,o,h1,h2⟩
  ·exact .inl hb
  ·rw [hobk id o o h1] at h2
   exact .inr ⟨id,o,(hlive id o h1).1,h2⟩
 have he:Ext (Mof X g own) (Mof X g' (ows lo)) w w:=⟨Nat.le_refl _,fun _ _ _ _=>rfl,fun b _ hb=>hM b hb⟩
 have hS:∀ s v,okS (ows lo) s=true→RepS g w (Mof X g own) s v→RepS g' w (Mof X g' (ows lo)) s v:=fun s v hs hv=>by
  cases s with
  | any=>trivial
  | dat u=>exact u.keep he hv
  | ptr id off =>
   obtain ⟨o,ho⟩:=jy hs
   obtain ⟨b,h1,h2⟩:=hv
   exact ⟨b,by rw [gb id (hne id o ho)]; exact h1,h2⟩
  | row id n =>
   obtain ⟨o,ho⟩:=jy hs
   show g'.sv id n=some v
   rw [gs id n (hne id o ho)]
   exact hv
  | rptr id n size k c =>
   obtain ⟨o,ho⟩:=jy hs
   obtain ⟨b,cap,h1,h2⟩:=hv
   exact ⟨b,cap,by rw [gs id n (hne id o ho)]; exact h1,h2⟩
  | mp id =>
   obtain ⟨o,ho⟩:=jy hs
   obtain ⟨b,h1,h2⟩:=hv
   exact ⟨b,by rw [gb id (hne id o ho)]; exact h1,h2⟩
  | rsub id n size k =>
   obtain ⟨o,ho⟩:=jy hs
   obtain ⟨b,cap,h1,h2⟩:=hv
   exact ⟨b,cap,by rw [gs id n (hne id o ho)]; exact h1,h2⟩
  | nptr id =>
   obtain ⟨o,ho⟩:=jy hs
   rcases hv with hv | ⟨b,h1,h2⟩
   ·exact .inl hv
   ·exact .inr ⟨b,by rw [gb id (hne id o ho)]; exact h1,h2⟩
  | dr id u =>
   obtain ⟨o,ho⟩:=jy hs
   obtain ⟨b,h1,h2⟩:=hv
   exact ⟨b,by rw [gb id (hne id o ho)]; exact h1,(u b).keep he h2⟩
  | comp tup cs =>
   refine kq.mono hv fun c x hc hx => ?_
   have hs':okC (ows lo) c=true:=(List.all_eq_true.1 hs) c hc
   cases c with
   | dat u=>exact u.keep he hx
   | ptr id off =>
    obtain ⟨o,ho⟩:=jy hs'
    obtain ⟨b,h1,h2⟩:=hx
    exact ⟨b,by rw [gb id (hne id o ho)]; exact h1,h2⟩
   | row id n =>
    obtain ⟨o,ho⟩:=jy hs'
    show g'.sv id n=some x
    rw [gs id n (hne id o ho)]
    exact hx
   | mp id =>
    obtain ⟨o,ho⟩:=jy hs'
    obtain ⟨b,h1,h2⟩:=hx
    exact ⟨b,by rw [gb id (hne id o ho)]; exact h1,h2⟩
 refine ⟨g',h.kp,h.m0,h.n,h.df,fun t => ?_,fun id o h1 => ?_,fun id id' o o' b h1 h2 h3 h4 => ?_,fun id o b h1 h2 => ?_,fun id h1=>⟨if_pos h1,fun n=>if_pos h1⟩,fun id e size es h1 k hk=>(gs id k (hne id _ h1)).trans (h.top id e size es (hlive id _ h1).1 k hk)⟩
 ·rcases hF t with h1 | ⟨h1,h2⟩
  ·rw [h1]; trivial
  ·refine hS _ _ h2 ?_
   rw [h1]; exact h.fr t
 ·obtain ⟨h2,h3⟩:=hlive id o h1
  have h4:=h.ob id o h2
  cases o with
  | box an t cs =>
   obtain ⟨b,l,q1,q0,q2,q3,q4⟩:=h4
   refine ⟨b,l,by rw [gb id (hne id _ h1)]; exact q1,q0,q2,q3,fun j s hs => ?_⟩
   obtain ⟨x,r1,r2,r3⟩:=q4 j s hs
   exact ⟨x,r1,hS _ _ ((List.all_eq_true.1 h3) s (List.mem_of_getElem? hs)) r2,r3⟩
  | row e size es =>
   obtain ⟨v,xs,q1,q2,q3,q4,q5⟩:=h4
   refine ⟨v,xs,by rw [gs id _ (hne id _ h1)]; exact q1,q2,q3,q4,fun k c el u hk hc => ?_⟩
   obtain ⟨x,r1,r2,r3⟩:=q5 k c el u hk hc
   exact ⟨x,r1,u.keep he r2,r3⟩
  | opq an R =>
   obtain ⟨b,o,q1,q0,q2,q3⟩:=h4
   exact ⟨b,o,by rw [gb id (hne id _ h1)]; exact q1,q0,q2,q3⟩
  | rowA v e size es =>
   obtain ⟨xs,q1,q2,q3,q4,q5⟩:=h4
   refine ⟨xs,by rw [gs id _ (hne id _ h1)]; exact q1,q2,q3,q4,fun k c el u hk hc => ?_⟩
   obtain ⟨x,r1,r2,r3⟩:=q5 k c el u hk hc
   exact ⟨x,r1,u.keep he r2,r3⟩
 ·rw [hobk id o o h1] at h3
  rw [hobk id' o' o' h2] at h4
  exact h.sep id id' o o' b (hlive id o h1).1 (hlive id' o' h2).1 h3 h4
 ·rw [hobk id o o h1] at h2
  exact h.mine id o b (hlive id o h1).1 h2

theorem Wp {ι:Type} {c:Code} (F:ι→List (Nat×Slot)) (O:ι→List (Nat×AObj)) (I:ι→Prop) (μ:ι→Nat) (i0:ι) (h0:I i0) (hf:subF f (F i0)) (ho:subO own (O i0)) (hok:∀ i,okL (F i) (O i)=true)
  (round:∀ i,I i→AWP P X c (fun e f own=>match e with | .normal=>∃ j,I j∧μ j < μ i∧subF f (F j)∧subO own (O j) | e=>Q e f own) (frs (F i)) (ows (O i))):AWP P X (.loop c) Q f own:=by
 intro g a w hr
 have key:∀ n i g a w,μ i < n→I i→Rel X (frs (F i)) (ows (O i)) g a w→Code.roundsIn (FR X.R) 0 P c (fun e a' w'=>∃ f' own' g',Rel X f' own' g' a' w'∧Q e f' own') n a w:=by
  intro n
  induction n with
  | zero=>intro i g a w h; omega
  | succ n ih =>
   intro i g a w hn hi hr
   rw [roundsIn_succ]
   refine wpIn_mono (round i hi g a w hr) ?_
   rintro e a' w' ⟨f',own',g',h1,h2⟩
   cases e with
   | normal =>
    obtain ⟨j,hj,hlt,hsf,hso⟩:=h2
    obtain ⟨g'',hr''⟩:=h1.less (F j) (O j) hsf hso (hok j)
    exact ih j g'' a' w' (by omega) hj hr''
   | exit id=>exact ⟨f',own',g',h1,h2⟩
   | goto l=>exact ⟨f',own',g',h1,h2⟩
   | ret=>exact ⟨f',own',g',h1,h2⟩
   | panic ch=>exact ⟨f',own',g',h1,h2⟩
   | outgrown=>exact ⟨f',own',g',h1,h2⟩
 obtain ⟨g',hr'⟩:=hr.less (F i0) (O i0) hf ho (hok i0)
 exact wpIn_loop_rounds (μ i0+1) (key _ i0 g' a w (by omega) h0 hr')
end code

def Pure (P:Program) (fn:Nat) (args:List V) (res:V):Prop:=
 ∀ (M:Blks) (w:World) (vs:Array Value),Mlt w M→Ts w M args vs.toList →
  Calls P fn vs w fun e w'=>∃ v,e = .returned v∧res.p w' M v∧Kp [] w w'

def y46 (own:Own) (s:Slot) (u:V):Prop:=match s with
 | .dat v=>v=u∨(v=vval (.slice none 0 0)∧u=vlst [])
 | .row id n=>∃ e size es,own id=some (some (.row e size es))∧n=es.length∧u=vlst es
 | _=>False

theorem x6j {X:Ctx} {f:Nat→Slot} {own:Own} {g:Gh} {a:Act} {w:World} (h:Rel X f own g a w) (M1:Blks) (he:Ext (Mof X g own) M1 w w)
  (hM1:∀ id e size es b,own id=some (some (.row e size es))→obk g id (.row e size es)=some b→¬ M1 b) {s:Slot} {u:V} {v:Value} (hs:y46 own s u) (hv:RepS g w (Mof X g own) s v):u.p w M1 v:=by
 cases s with
 | any=>cases hs
 | dat v' =>
  rcases hs with rfl | ⟨rfl,rfl⟩
  ·exact v'.keep he hv
  ·exact ⟨none,0,hv,Nat.le_refl _,fun h=>absurd rfl h⟩
 | ptr id off=>cases hs
 | rptr id n size k c=>cases hs
 | mp id=>cases hs
 | rsub id n size k=>cases hs
 | nptr id=>cases hs
 | dr id u=>cases hs
 | comp tup cs=>cases hs
 | row id n =>
  obtain ⟨e,size,es,h1,rfl,rfl⟩:=hs
  have h2:=h.ob id _ h1
  obtain ⟨v',xs,q1,q2,q3,q4,q5⟩:=h2
  have hv':g.sv id es.length=some v:=hv
  rw [hv'] at q1
  cases q1
  rcases q2.2 with ⟨rfl,hn⟩ | ⟨b,cap,cur,rfl,_,hb,hnc,_,hcs,htk⟩
  ·have:es=[]:=List.eq_nil_of_length_eq_zero hn
   subst this
   exact ⟨none,0,rfl,Nat.le_refl _,fun h=>absurd rfl h⟩
  ·refine ⟨_,cap,rfl,hnc,fun _=>⟨b,0,size,rfl,hM1 id e size es b h1 (by simp only [obk]; rw [hv']; rfl),cur,e,(0,0),hb,q4,fun k c el u hk hc => ?_⟩⟩
   obtain ⟨x,r1,r2,r3⟩:=q5 k c el u hk hc
   refine ⟨x,?_,u.keep he r2,r3⟩
   rw [← htk,List.getElem?_take] at r1
   split at r1
   ·rw [Nat.zero_add]; simpa using r1
   ·cases r1

def tyS (P:Program) (t:TypeId):Option (Bool×Nat):=(P.info? t).bind fun i=>(P.underlying t).map fun d=>(d.isRow,i.size)
theorem kr {P:Program} {t:TypeId} {b:Bool} {n:Nat} (h:tyS P t=some (b,n)):∃ d i,P.underlying t=some d∧d.isRow=b∧P.info? t=some i∧i.size=n:=by
 unfold tyS at h
 cases hi:P.info? t with
 | none=>rw [hi] at h; cases h
 | some i =>
  rw [hi] at h
  cases hd:P.underlying t with
  | none=>rw [hd] at h; cases h
  | some d =>
   rw [hd] at h
   simp at h
   exact ⟨d,i,rfl,h.1,rfl,h.2⟩
theorem x5s {P:Program} {t:TypeId} {n:Nat} (ht:tyS P t=some (false,n)) (w:World) (ad:Addr) (v:Value) (hc:w.cell? ad=some v):(loadVar t ad).run P w = .ok v w:=by
 obtain ⟨d,i,h1,h2,h3,h4⟩:=kr ht
 have hagg:(isAgg t).run P w = .ok false w:=by
  unfold isAgg
  rw [Sem.run_bind,run_underlying h1 w]
  cases d <;> simp_all
 simp [loadVar,hagg,hc]
def resF (tmps:Array Value):ResultVar→Sem Value
 | .tmp t=>pure (tmps.getD t undef)
 | .cell a t=>do loadVar t (← asAddr (tmps.getD a undef))
theorem z9g (fn:Func) (tmps:Array Value):results fn tmps=(do let vs ← fn.results.mapM (resF tmps); pure (if h:vs.size=1 then vs[0] else .tuple vs)):=by
 rfl

def z4z (P:Program) (f:Nat→Slot) (own:Own):List ResultVar→List V→Prop
 | [],[]=>True
 | .tmp t::rs,u::us=>y46 own (f t) u∧z4z P f own rs us
 | .cell t ty::rs,u::us=>((∃ id an cs ws,f t = .ptr id 0∧own id=some (some (.box an ty cs))∧cs=List.map Slot.dat ws∧u=vagg ws∧tyS P ty=some (true,ws.length))∨∃ id an,f t = .ptr id 0∧own id=some (some (.box an ty [.dat u]))∧tyS P ty=some (false,1))∧z4z P f own rs us
 | _,_=>False
def zu:List V→V
 | [u]=>u
 | us=>vtup us
theorem x5p {P:Program} {X:Ctx} {f:Nat→Slot} {own:Own} {g:Gh} {a:Act} {w:World} (h:Rel X f own g a w) (M1:Blks) (he:Ext (Mof X g own) M1 w w)
  (hM1:∀ id e size es b,own id=some (some (.row e size es))→obk g id (.row e size es)=some b→¬ M1 b) :
  ∀ (rs:List ResultVar) (us:List V),z4z P f own rs us→∃ l:List Value,
   (rs.mapM (resF a.tmps)).run P w = .ok l w∧Ts w M1 us l:=by
 intro rs
 induction rs with
 | nil =>
  intro us hu
  cases us with
  | nil=>exact ⟨[],by simp,rfl,fun j u hj=>by simp at hj⟩
  | cons u us=>cases hu
 | cons r rs ih =>
  intro us hu
  cases us with
  | nil=>cases r <;> cases hu
  | cons u us =>
   have hTs:∀ (v:Value) (l:List Value),u.p w M1 v→Ts w M1 us l→Ts w M1 (u::us) (v::l):=fun v l hv hl =>
    ⟨by simp [hl.1],fun j u' hj=>by
     cases j with
     | zero=>simp at hj; subst hj; exact ⟨v,rfl,hv⟩
     | succ j=>exact hl.2 j u' (by simpa using hj)⟩
   cases r with
   | tmp t =>
    obtain ⟨h1,h2⟩:=hu
    obtain ⟨l,q1,q2⟩:=ih us h2
    refine ⟨a.tmps.getD t undef::l,?_,hTs _ _ (x6j h M1 he hM1 h1 (h.fr t)) q2⟩
    simp only [List.mapM_cons,resF,Sem.run_bind,Sem.run_pure,Result.andThen_ok,q1]
   | cell t ty =>
    obtain ⟨hu,h5⟩:=hu
    obtain ⟨l,q1,q2⟩:=ih us h5
    rcases hu with ⟨id,an,cs,ws,h1,h2,h3,h4,h6⟩ | ⟨id,an,h1,h2,h6⟩
    rotate_left
    ·obtain ⟨d,i,r1,r2,r3,r4⟩:=kr h6
     have hfr:=h.fr t
     rw [h1] at hfr
     obtain ⟨b,s1,s2⟩:=hfr
     obtain ⟨b',lv,o1,_,o2,o3,o4⟩:=h.ob id _ h2
     rw [s1] at o1
     cases o1
     obtain ⟨x,p1,p2,p3⟩:=o4 0 (.dat u) rfl
     obtain ⟨x',rfl⟩:∃ x',lv=[x']:=List.length_eq_one_iff.1 o3
     obtain rfl:x'=x:=by simpa using p1
     have hc:w.cell? ⟨b,0,none⟩=some x':=by rw [cell_of_row w b _ _ _ _ o2]; rfl
     refine ⟨x'::l,?_,hTs _ _ (u.keep he p2) q2⟩
     simp only [List.mapM_cons,resF,s2,asAddr,Sem.run_bind,Sem.run_pure,Result.andThen_ok,x5s h6 w _ x' hc,q1]
    obtain ⟨d,i,r1,r2,r3,r4⟩:=kr h6
    have hfr:=h.fr t
    rw [h1] at hfr
    obtain ⟨b,s1,s2⟩:=hfr
    obtain ⟨b',lv,o1,_,o2,o3,o4⟩:=h.ob id _ h2
    rw [s1] at o1
    cases o1
    have hrun:=run_loadVar_mid (P:=P) w b 0 ty lv d (fun j v hv=>by rw [cell_of_row w b _ _ _ _ o2]; simpa using hv) r1 r2 (by rw [r3]; simp [o3,r4,h3])
    refine ⟨.agg lv.toArray::l,?_,hTs _ _ ?_ q2⟩
    ·simp only [List.mapM_cons,resF,s2,asAddr,Sem.run_bind,Sem.run_pure,Result.andThen_ok,hrun,q1]
    ·subst h4
     refine ⟨lv,rfl,by rw [o3,h3]; simp,fun j u' hj => ?_⟩
     obtain ⟨x,p1,p2,p3⟩:=o4 j (.dat u') (by rw [h3]; simp [hj])
     exact ⟨x,p1,u'.keep he p2,p3⟩

theorem y7d {P:Program} {X:Ctx} {f:Nat→Slot} {own:Own} {g:Gh} {a:Act} {w:World} (h:Rel X f own g a w) (M1:Blks) (he:Ext (Mof X g own) M1 w w)
  (hM1:∀ id e size es b,own id=some (some (.row e size es))→obk g id (.row e size es)=some b→¬ M1 b) (fc:Func) (us:List V) (hres:z4z P f own fc.results.toList us):∃ v,(results fc a.tmps).run P w = .ok v w∧(zu us).p w M1 v:=by
 obtain ⟨l,q1,q2⟩:=x5p (P:=P) h M1 he hM1 fc.results.toList us hres
 have hm:(fc.results.mapM (resF a.tmps)).run P w = .ok l.toArray w:=by
  rw [Array.mapM_eq_mapM_toList]
  simp [q1]
 rw [z9g]
 have hl:l.length=us.length:=q2.1
 cases hus:us with
 | nil =>
  subst hus
  have:l=[]:=List.eq_nil_of_length_eq_zero hl
  subst this
  exact ⟨.tuple #[],by simp [hm],[],rfl,q2⟩
 | cons u us' =>
  cases us' with
  | nil =>
   subst hus
   obtain ⟨x,hx⟩:∃ x,l=[x]:=List.length_eq_one_iff.1 hl
   subst hx
   refine ⟨x,by simp [hm],?_⟩
   obtain ⟨y,h1,h2⟩:=q2.2 0 u rfl
   simp at h1
   subst h1
   exact h2
  | cons u2 us2 =>
   subst hus
   refine ⟨.tuple l.toArray,?_,l,rfl,q2⟩
   have:¬ l.length=1:=by simp at hl; omega
   simp [hm,this]

theorem yr {P:Program} {fn:Nat} {fc:Func} {c:Code} {args:List V} {us:List V} {N:Nat} {rs:List ResultVar} (hf:P.funcs[fn]?=some fc) (hb:fc.body=some c) (hnt:fc.ntmps=N) (hrs:fc.results.toList=rs) (hn:Nat.ble args.length N=true)
  (h:∀ X:Ctx,X.N=N→AWP P X c (fun e f own=>(match e with | .ret=>True | .normal=>True | _=>False)∧z4z P f own rs us) (fun t=>(args.map Slot.dat).getD t .any) (fun _=>none)) :
  Pure P fn args (zu us):=by
 subst hnt hrs
 have hn:=Nat.le_of_ble_eq_true hn
 intro M w vs hM hvs
 have hvl:vs.size=args.length:=by simpa using hvs.1
 refine calls_of_wp hf hb (wp_mono (wpIn_wide.1 (h ⟨M,w,[],fc.ntmps,none,[]⟩ rfl ⟨fun _=>none,fun _ _=>none⟩ _ w ?_)) ?_)
 ·refine ⟨Kp.refl _ _,⟨fun b hb=>⟨hM.1 b hb,by simp⟩,hM.2.1,fun b hb=>⟨hM.2.2 b hb,by simp⟩⟩,by simp; omega,rfl,fun t => ?_,fun id o ho=>(by cases ho),fun id _ o _ b ho=>(by cases ho),fun id o b ho=>(by cases ho),fun id _=>⟨rfl,fun _=>rfl⟩,fun id e size es h=>(by cases h)⟩
  cases hs:args[t]? with
  | none =>
   have:(args.map Slot.dat).getD t .any = .any:=by rw [List.getD_eq_getElem?_getD,List.getElem?_map,hs]; rfl
   rw [this]; trivial
  | some u =>
   have e1:(args.map Slot.dat).getD t .any = .dat u:=by rw [List.getD_eq_getElem?_getD,List.getElem?_map,hs]; rfl
   rw [e1]
   obtain ⟨x,hx,hp⟩:=hvs.2 t u hs
   have hx':vs[t]?=some x:=by simpa using hx
   have hlt:t < vs.size:=(Array.getElem?_eq_some_iff.1 hx').1
   show u.p w _ _
   rw [Array.getD_eq_getD_getElem?,Array.getElem?_append_left hlt,hx']
   exact u.keep (M:=M) ⟨Nat.le_refl _,fun _ _ _ _=>rfl,fun b _ hb=>by
    rcases hb with hb | ⟨id,o,ho,_⟩
    ·exact hb
    ·cases ho⟩ hp
 ·rintro e a' w' ⟨f',own',g',hr,he,hres⟩
  obtain ⟨v,hv1,hv2⟩:=y7d (P:=P) hr M ⟨Nat.le_refl _,fun _ _ _ _=>rfl,fun b _ hb => .inl hb⟩ (fun id e size es b h1 h2 hM'=>by
   have h5:=hr.m0.1 b hM'
   rcases hr.mine id _ b h1 h2 with h6 | h6
   ·exact h5.2 h6
   ·have:=h5.1
    omega) fc us hres
  have hfin:a'.defers=[]∧∃ v,(results fc a'.tmps).run P w' = .ok v w'∧∃ v_1,Ending.returned v = .returned v_1∧(zu us).p w' M v_1∧Kp [] w w':=⟨hr.df,v,hv1,v,rfl,hv2,hr.kp⟩
  cases e with
  | normal=>exact hfin
  | ret=>exact hfin
  | exit _=>exact he.elim
  | goto _=>exact he.elim
  | panic _=>exact he.elim
  | outgrown=>exact he.elim
theorem zb {P:Program} {X:Ctx} {id:Nat} {ops:Array Oper} {Q:Exit→(Nat→Slot)→Own→Prop} {f:Nat→Slot} {own:Own} {y:Code}
  {N:Nat} (hX:X.N=N) (hN:xw N ops=true) (h:seqA P ops ops.toList f own [] fun f' own' _=>AWP P X y Q f' own'):AWP P X (.seq (.region id ops false) y) Q f own:=zd (zm hX hN h)
end Go.Proofs.YtgdijjmdfcgifaaGreat
namespace Go.Proofs.YtgdijjmdfcgifaaGreat
open Go.RowKit
set_option linter.unusedVariables false

abbrev vint (n:Int):V:=vval (.int .i64 n)
abbrev zn (b:Bool):V:=vval (.bool b)
abbrev vstr (l:List UInt8):V:=vval (.string ⟨l.toArray⟩)

section
variable {P:Program} {ops:Array Oper} {os:List Oper} {f:Nat→Slot} {own:Own} {lg:List (List Nat×List Nat)} {K:(Nat→Slot)→Own→List (List Nat×List Nat)→Prop}
variable {dst:Option Tmp} {op:Op} {ty:TypeId} {pos:String} {af:Array Edge} {gd:Option (Nat×Bool)} {s:Slot}

theorem za (hst:Stp P ⟨dst,op,ty,pos,af,none⟩ f ⟨false,[],[],s⟩) (h:seqA P ops os (updS f dst s) own (([],[])::lg) K):seqA P ops (⟨dst,op,ty,pos,af,none⟩::os) f own lg K:=
 ⟨_,⟨rfl,fun _=>⟨hst,fun q hq=>(by cases hq)⟩,fun h=>(by cases h),fun k hk=>(by cases hk)⟩,h⟩
theorem zh {id:Nat} {q:Option (Option AObj)} (hst:Stp P ⟨dst,op,ty,pos,af,none⟩ f ⟨false,[(id,q)],[],s⟩) (hq:own id=q) (h:seqA P ops os (updS f dst s) own (([id],[])::lg) K):seqA P ops (⟨dst,op,ty,pos,af,none⟩::os) f own lg K:=
 ⟨_,⟨rfl,fun _=>⟨hst,fun q' hq'=>(by simp only [List.mem_singleton] at hq'; subst hq'; exact hq)⟩,fun h=>(by cases h),fun k hk=>(by cases hk)⟩,h⟩
theorem zi {id:Nat} {q q':Option (Option AObj)} (hst:Stp P ⟨dst,op,ty,pos,af,none⟩ f ⟨false,[(id,q)],[(id,q')],s⟩) (hq:own id=q) (h:seqA P ops os (updS f dst s) (upl own [(id,q')]) (([id],[id])::lg) K):seqA P ops (⟨dst,op,ty,pos,af,none⟩::os) f own lg K:=
 ⟨_,⟨rfl,fun _=>⟨hst,fun q' hq'=>(by simp only [List.mem_singleton] at hq'; subst hq'; exact hq)⟩,fun h=>(by cases h),fun k hk=>hk⟩,h⟩
theorem zf {j d:Nat} {want b:Bool} (h1:(ops[j]?).bind (·.dst)=some d) (h2:f d = .dat (zn b)) (h3:(b != want)=false) (hst:Stp P ⟨dst,op,ty,pos,af,some (j,want)⟩ f ⟨false,[],[],s⟩) (h:seqA P ops os (updS f dst s) own (([],[])::lg) K) :
  seqA P ops (⟨dst,op,ty,pos,af,some (j,want)⟩::os) f own lg K:=
 ⟨_,⟨⟨d,.bool b,h1,h2,h3.symm⟩,fun _=>⟨hst,fun q hq=>(by cases hq)⟩,fun h=>(by cases h),fun k hk=>(by cases hk)⟩,h⟩
theorem yd {j d:Nat} {want b:Bool} {id:Nat} {q:Option (Option AObj)} (h1:(ops[j]?).bind (·.dst)=some d) (h2:f d = .dat (zn b)) (h3:(b != want)=false) (hst:Stp P ⟨dst,op,ty,pos,af,some (j,want)⟩ f ⟨false,[(id,q)],[],s⟩) (hq:own id=q) (h:seqA P ops os (updS f dst s) own (([id],[])::lg) K) :
  seqA P ops (⟨dst,op,ty,pos,af,some (j,want)⟩::os) f own lg K:=
 ⟨_,⟨⟨d,.bool b,h1,h2,h3.symm⟩,fun _=>⟨hst,fun q' hq'=>(by simp only [List.mem_singleton] at hq'; subst hq'; exact hq)⟩,fun h=>(by cases h),fun k hk=>(by cases hk)⟩,h⟩
theorem zc {j d:Nat} {want b:Bool} (h1:(ops[j]?).bind (·.dst)=some d) (h2:f d = .dat (zn b)) (h3:(b != want)=true) (h:seqA P ops os (updS f dst (.dat (vval undef))) own (([],[])::lg) K) :
  seqA P ops (⟨dst,op,ty,pos,af,some (j,want)⟩::os) f own lg K:=
 ⟨⟨true,[],[],.dat (vval undef)⟩,⟨⟨d,.bool b,h1,h2,h3.symm⟩,fun h=>(by cases h),fun _=>⟨rfl,rfl,rfl⟩,fun k hk=>(by cases hk)⟩,h⟩
theorem yg {j d:Nat} {want:Bool} (h1:(ops[j]?).bind (·.dst)=some d) (h2:f d = .dat (vval undef)) (h:seqA P ops os (updS f dst (.dat (vval undef))) own (([],[])::lg) K) :
  seqA P ops (⟨dst,op,ty,pos,af,some (j,want)⟩::os) f own lg K:=
 ⟨⟨true,[],[],.dat (vval undef)⟩,⟨⟨d,undef,h1,h2,rfl⟩,fun h=>(by cases h),fun _=>⟨rfl,rfl,rfl⟩,fun k hk=>(by cases hk)⟩,h⟩
theorem z3d {j d:Nat} {want b:Bool} {id:Nat} {q q':Option (Option AObj)} (h1:(ops[j]?).bind (·.dst)=some d) (h2:f d = .dat (zn b)) (h3:(b != want)=false) (hst:Stp P ⟨dst,op,ty,pos,af,some (j,want)⟩ f ⟨false,[(id,q)],[(id,q')],s⟩) (hq:own id=q) (h:seqA P ops os (updS f dst s) (upl own [(id,q')]) (([id],[id])::lg) K) :
  seqA P ops (⟨dst,op,ty,pos,af,some (j,want)⟩::os) f own lg K:=
 ⟨_,⟨⟨d,.bool b,h1,h2,h3.symm⟩,fun _=>⟨hst,fun q' hq'=>(by simp only [List.mem_singleton] at hq'; subst hq'; exact hq)⟩,fun h=>(by cases h),fun k hk=>hk⟩,h⟩
theorem qo {j d:Nat} {want b:Bool} {o:Oper} (h1:(ops[j]?).bind (·.dst)=some d) (h2:f d = .dat (zn b)) (ht:(b != want)=false→seqA P ops (o::os) f own lg K) (hf:(b != want)=true→seqA P ops (o::os) f own lg K) (hg:o.guard=some (j,want)):seqA P ops (o::os) f own lg K:=by
 cases hb:(b != want)
 ·exact ht hb
 ·exact hf hb
end

section
variable {P:Program} {f:Nat→Slot} {dst:Option Tmp} {ty:TypeId} {pos:String} {af:Array Edge} {gd:Option (Nat×Bool)}

theorem ve {o:Oper} {s:Slot} (h:∀ (X:Ctx) (own:Own) (g:Gh) (a:Act) (w:World),(∀ x,x∈o.op.operands→RepS g w (Mof X g own) (evS f x) (a.eval x))→∃ v,(execOp a.eval o).run P w = .ok (.value v) w∧RepS g w (Mof X g own) s v) :
  Stp P o f ⟨false,[],[],s⟩:=by
 intro X f' own g a w Q hr hd hx _ K hK
 obtain ⟨v,h1,h2⟩:=h X own g a w (fun x hm=>by rw [← hx x hm]; exact hr.ev x)
 unfold Oper.wp
 rw [h1]
 exact hK g v w (hr.put o.dst s v hd h2)

theorem zg {x:Operand} (s:Slot) (hx:evS f x=s):Stp P ⟨dst,.move x,ty,pos,af,gd⟩ f ⟨false,[],[],s⟩:=
 ve fun X own g a w h=>⟨_,rfl,hx ▸ h x (by simp [Op.operands])⟩
theorem wo {x:Operand} (s:Slot) (hx:evS f x=s):Stp P ⟨dst,.assign x,ty,pos,af,gd⟩ f ⟨false,[],[],s⟩:=
 ve fun X own g a w h=>⟨_,rfl,hx ▸ h x (by simp [Op.operands])⟩

theorem qd {ops:Array Oper} {os:List Oper} {own:Own} {lg:List (List Nat×List Nat)} {K:(Nat→Slot)→Own→List (List Nat×List Nat)→Prop} {x:Operand} {u:V} (hx:evS f x = .dat u) (h:seqA P ops os (updS f dst (.dat u)) own (([],[])::lg) K):seqA P ops (⟨dst,.move x,ty,pos,af,none⟩::os) f own lg K:=za (zg (.dat u) hx) h
theorem qe {ops:Array Oper} {os:List Oper} {own:Own} {lg:List (List Nat×List Nat)} {K:(Nat→Slot)→Own→List (List Nat×List Nat)→Prop} {x:Operand} {u:V} (hx:evS f x = .dat u) (h:seqA P ops os (updS f dst (.dat u)) own (([],[])::lg) K):seqA P ops (⟨dst,.assign x,ty,pos,af,none⟩::os) f own lg K:=za (wo (.dat u) hx) h

theorem vc {g:Gh} {w:World} {M:Blks} {s:Slot} {u v:Value} (h:RepS g w M s v) (hs:s = .dat (vval u)):v=u:=by subst hs; exact h

theorem ux {op:BinOp} {t t':TypeId} {x y:Operand} {u v r:Value} (hx:evS f x = .dat (vval u)) (hy:evS f y = .dat (vval v))
  (hr:∀ w,(do eqGuard op t x y u v; binOp op t u v:Sem Value).run P w = .ok r w):Stp P ⟨dst,.binOp op t x y t',ty,pos,af,gd⟩ f ⟨false,[],[],.dat (vval r)⟩:=
 ve fun X own g a w h=>by
  have h1:=vc (h x (by simp [Op.operands])) hx
  have h2:=vc (h y (by simp [Op.operands])) hy
  refine ⟨r,?_,rfl⟩
  simp only [execOp,h1,h2,Sem.run_bind,hr w]
  simp

theorem ym {op:BinOp} {t t':TypeId} {x y:Operand} {k:IntKind} {m n:Int} (r:Int) (hx:evS f x = .dat (vval (.int k m))) (hy:evS f y = .dat (vval (.int k n)))
  (ho:(op = .add∧r=k.wrap (m+n))∨(op = .sub∧r=k.wrap (m - n))∨(op = .mul∧r=k.wrap (m * n))):Stp P ⟨dst,.binOp op t x y t',ty,pos,af,gd⟩ f ⟨false,[],[],.dat (vval (.int k r))⟩:=
 ux hx hy fun w=>by rcases ho with ⟨rfl,rfl⟩ | ⟨rfl,rfl⟩ | ⟨rfl,rfl⟩ <;> simp [eqGuard,binOp,Op.intArith]
theorem yy {t t':TypeId} {x y:Operand} {m n:Int} (hx:evS f x = .dat (vint m)) (hy:evS f y = .dat (vint n)) (hr:-9223372036854775808≤m+n∧m+n≤9223372036854775807) :
  Stp P ⟨dst,.binOp .add t x y t',ty,pos,af,gd⟩ f ⟨false,[],[],.dat (vint (m+n))⟩:=ym _ hx hy (.inl ⟨rfl,(IntWalk.i64_in _ (by omega)).symm⟩)
theorem z1i {t t':TypeId} {x y:Operand} {m n:Int} (hx:evS f x = .dat (vint m)) (hy:evS f y = .dat (vint n)) (hr:-9223372036854775808≤m - n∧m - n≤9223372036854775807) :
  Stp P ⟨dst,.binOp .sub t x y t',ty,pos,af,gd⟩ f ⟨false,[],[],.dat (vint (m - n))⟩:=ym _ hx hy (.inr (.inl ⟨rfl,(IntWalk.i64_in _ (by omega)).symm⟩))
theorem z1j {t t':TypeId} {x y:Operand} {m n:Int} (hx:evS f x = .dat (vint m)) (hy:evS f y = .dat (vint n)) (h0:0≤m∧m≤9223372036854775807) (h1:0 < n) :
  Stp P ⟨dst,.binOp .quo t x y t',ty,pos,af,gd⟩ f ⟨false,[],[],.dat (vint (m / n))⟩:=by
 refine ux hx hy fun w => ?_
 have h2:n≠0:=by omega
 have h3:m.tdiv n=m / n:=Int.tdiv_eq_ediv_of_nonneg h0.1
 have h4:0≤m / n:=Int.ediv_nonneg h0.1 (by omega)
 have h5:m / n≤m:=Int.ediv_le_self n h0.1
 simp [eqGuard,binOp,Op.intDiv,h2,h3,IntWalk.i64_in (m / n) (by omega)]
section
variable {t t':TypeId} {x y:Operand} {k:IntKind} {m n:Int} (hx:evS f x = .dat (vval (.int k m))) (hy:evS f y = .dat (vval (.int k n)))
include hx hy
theorem zq:Stp P ⟨dst,.binOp .lss t x y t',ty,pos,af,gd⟩ f ⟨false,[],[],.dat (zn (decide (m < n)))⟩:=ux hx hy fun w=>by simp [eqGuard,binOp,Op.intCmp]
theorem xi:Stp P ⟨dst,.binOp .leq t x y t',ty,pos,af,gd⟩ f ⟨false,[],[],.dat (zn (decide (m≤n)))⟩:=ux hx hy fun w=>by simp [eqGuard,binOp,Op.intCmp]
theorem vn:Stp P ⟨dst,.binOp .gtr t x y t',ty,pos,af,gd⟩ f ⟨false,[],[],.dat (zn (decide (n < m)))⟩:=ux hx hy fun w=>by simp [eqGuard,binOp,Op.intCmp]
theorem ke:Stp P ⟨dst,.binOp .geq t x y t',ty,pos,af,gd⟩ f ⟨false,[],[],.dat (zn (decide (n≤m)))⟩:=ux hx hy fun w=>by simp [eqGuard,binOp,Op.intCmp]
theorem qz:Stp P ⟨dst,.binOp .eql t x y t',ty,pos,af,gd⟩ f ⟨false,[],[],.dat (zn (decide (m=n)))⟩:=ux hx hy fun w=>by simp [eqGuard,binOp,Op.intCmp]; rfl
theorem km:Stp P ⟨dst,.binOp .neq t x y t',ty,pos,af,gd⟩ f ⟨false,[],[],.dat (zn (decide (m≠n)))⟩:=ux hx hy fun w=>by simp [eqGuard,binOp,Op.intCmp]; rfl
end

section
variable {t t':TypeId} {x y:Operand} {l r:List UInt8} (hx:evS f x = .dat (vstr l)) (hy:evS f y = .dat (vstr r))
include hx hy
theorem xu:Stp P ⟨dst,.binOp .eql t x y t',ty,pos,af,gd⟩ f ⟨false,[],[],.dat (zn (decide (l=r)))⟩:=ux hx hy fun w=>by simp [eqGuard,binOp,Op.stringOp]; by_cases h:l=r <;> simp [h]
theorem y6l:Stp P ⟨dst,.binOp .neq t x y t',ty,pos,af,gd⟩ f ⟨false,[],[],.dat (zn (decide (l≠r)))⟩:=ux hx hy fun w=>by
 simp [eqGuard,binOp,Op.stringOp]
 by_cases h:l=r <;> simp [h]
theorem y6m:Stp P ⟨dst,.binOp .lss t x y t',ty,pos,af,gd⟩ f ⟨false,[],[],.dat (zn (Op.bytesLess l r))⟩:=ux hx hy fun w=>by simp [eqGuard,binOp,Op.stringOp]
theorem y6n:Stp P ⟨dst,.binOp .leq t x y t',ty,pos,af,gd⟩ f ⟨false,[],[],.dat (zn (Op.bytesLess l r || l == r))⟩:=ux hx hy fun w=>by simp [eqGuard,binOp,Op.stringOp]
theorem x4c (hl:l.length+r.length≤9223372036854775807):Stp P ⟨dst,.binOp .add t x y t',ty,pos,af,gd⟩ f ⟨false,[],[],.dat (vstr (l++r))⟩:=ux hx hy fun w=>by
 have h1:¬ (((ByteArray.mk l.toArray).size+(ByteArray.mk r.toArray).size:Nat):Int) > IntKind.i64.max:=by
  have e1:(ByteArray.mk l.toArray).size=l.length:=by simp [ByteArray.size]
  have e2:(ByteArray.mk r.toArray).size=r.length:=by simp [ByteArray.size]
  have e3:IntKind.i64.max=9223372036854775807:=by decide
  rw [e1,e2,e3]
  omega
 have e4:ByteArray.mk l.toArray++ByteArray.mk r.toArray=ByteArray.mk (l++r).toArray:=by
  apply ByteArray.ext
  simp
 have e5:(binOp .add t (.string ⟨l.toArray⟩) (.string ⟨r.toArray⟩):Sem Value)=pure (.string ⟨(l++r).toArray⟩):=by
  simp only [binOp,Op.stringOp]
  rw [if_neg h1,e4]
 rw [e5]
 simp [eqGuard]
end

theorem qs {t:TypeId} {x:Operand} {b:Bool} (hx:evS f x = .dat (zn b)):Stp P ⟨dst,.unOp .not t x,ty,pos,af,gd⟩ f ⟨false,[],[],.dat (zn (!b))⟩:=
 ve fun X own g a w h=>by
  have h1:=vc (h x (by simp [Op.operands])) hx
  exact ⟨_,by simp [execOp,h1,Op.unary],rfl⟩
theorem z8y {t:TypeId} {x:Operand} {n:Int} (hx:evS f x = .dat (vint n)) (hn:-9223372036854775807≤n∧n≤9223372036854775807):Stp P ⟨dst,.unOp .neg t x,ty,pos,af,gd⟩ f ⟨false,[],[],.dat (vint (-n))⟩:=
 ve fun X own g a w h=>by
  have h1:=vc (h x (by simp [Op.operands])) hx
  exact ⟨_,by simp [execOp,h1,Op.unary,Op.intArith,IntWalk.i64_in (-n) (by omega)],rfl⟩
theorem yh {c x y:Operand} {b:Bool} {v:V} (hc:evS f c = .dat (zn b)) (hb:(b != true)=false) (hx:evS f x = .dat v):Stp P ⟨dst,.pick c x y,ty,pos,af,gd⟩ f ⟨false,[],[],.dat v⟩:=
 ve fun X own g a w h=>by
  have h1:=vc (h c (by simp [Op.operands])) hc
  have h2:=h x (by simp [Op.operands])
  rw [hx] at h2
  have h3:b=true:=by simpa using hb
  exact ⟨_,by simp [execOp,h1,asBool,h3],h2⟩
theorem yn {c x y:Operand} {b:Bool} {v:V} (hc:evS f c = .dat (zn b)) (hb:(b != false)=false) (hy:evS f y = .dat v):Stp P ⟨dst,.pick c x y,ty,pos,af,gd⟩ f ⟨false,[],[],.dat v⟩:=
 ve fun X own g a w h=>by
  have h1:=vc (h c (by simp [Op.operands])) hc
  have h2:=h y (by simp [Op.operands])
  rw [hy] at h2
  have h3:b=false:=by simpa using hb
  exact ⟨_,by simp [execOp,h1,asBool,h3],h2⟩
theorem z5q {x:Operand} {t:TypeId} {l:List UInt8} (ht:P.underlying t=some .string) (hx:evS f x = .dat (vstr l)):Stp P ⟨dst,.call { callee := .builtin .len,args := #[x],argTypes := #[t] },ty,pos,af,gd⟩ f ⟨false,[],[],.dat (vint (l.length:Int))⟩:=
 ve fun X own g a w h=>by
  have h1:=vc (h x (by simp [Op.operands,Call.operands])) hx
  refine ⟨.int .i64 (l.length:Int),?_,rfl⟩
  have hz:(ByteArray.mk l.toArray).size=l.length:=by simp [ByteArray.size]
  simp [execOp,resolve,invoke,builtin,Builtin.len_,h1,run_underlying ht,goInt,hz]
theorem x4s {x:Operand} {t e:TypeId} {es:List (List V)} (ht:P.underlying t=some (.slice e)) (hx:evS f x = .dat (vlst es)):Stp P ⟨dst,.call { callee := .builtin .len,args := #[x],argTypes := #[t] },ty,pos,af,gd⟩ f ⟨false,[],[],.dat (vint (es.length:Int))⟩:=
 ve fun X own g a w h=>by
  have h1:=h x (by simp [Op.operands,Call.operands])
  rw [hx] at h1
  obtain ⟨A,c,h2,_⟩:=h1
  refine ⟨.int .i64 (es.length:Int),?_,rfl⟩
  simp [execOp,resolve,invoke,builtin,Builtin.len_,h2,run_underlying ht,goInt]
end
end Go.Proofs.YtgdijjmdfcgifaaGreat
namespace Go.Proofs.YtgdijjmdfcgifaaGreat
open Go.RowKit
set_option linter.unusedVariables false

def tyZ (P:Program) (t:TypeId):Option (List Value):=(P.info? t).bind fun i=>i.zero.map fun z=>z.cells.toList
def tyF (P:Program) (t:TypeId) (i:Nat):Option (Nat×TypeId):=match P.underlying t with
 | some (.struct fs)=>(fs[i]?).bind fun fl=>(P.info? fl.type).bind fun j=>if j.size=0 then none else some (fl.offset,fl.type)
 | _=>none
def tyE (P:Program) (t:TypeId):Option (TypeId×Nat):=match P.underlying t with
 | some (.slice e)=>(P.info? e).map fun j=>(e,j.size)
 | _=>none
section
variable {P:Program} {f:Nat→Slot} {dst:Option Tmp} {ty:TypeId} {pos:String} {af:Array Edge} {gd:Option (Nat×Bool)}

theorem xv {o:Oper} {s:Slot} {id:Nat} {ob:AObj} (h:∀ (X:Ctx) (own:Own) (g:Gh) (a:Act) (w:World),(∀ x,x∈o.op.operands→RepS g w (Mof X g own) (evS f x) (a.eval x))→RepO g w (Mof X g own) id ob→∃ v,(execOp a.eval o).run P w = .ok (.value v) w∧RepS g w (Mof X g own) s v) :
  Stp P o f ⟨false,[(id,some (some ob))],[],s⟩:=by
 intro X f' own g a w Q hr hd hx hrd K hK
 have ho:own id=some (some ob):=hrd (id,some (some ob)) (by simp)
 obtain ⟨v,h1,h2⟩:=h X own g a w (fun x hm=>by rw [← hx x hm]; exact hr.ev x) (hr.ob id ob ho)
 unfold Oper.wp
 rw [h1]
 exact hK g v w (hr.put o.dst s v hd h2)

theorem z8x {o : Oper} {id : Nat} {t : TypeId} {cs : List Slot} (h : ∀ (X : Ctx) (own : Own) (g : Gh) (a : Act) (w : World), (∀ x, x ∈ o.op.operands → RepS g w (Mof X g own) (evS f x) (a.eval x)) → 
      ∃ l : List Value, (execOp a.eval o).run P w = .ok (.value (.pointer (some ⟨w.heap.size, 0, none⟩))) (w.alloc (.cells l.toArray t)) ∧ l.length = cs.length ∧ ∀ (j : Nat) (s : Slot), cs[j]? = some s → ∃ x, l[j]? = some x ∧ RepS g w (Mof X g own) s x ∧ x.oneCell' = true) :
    Stp P o f ⟨false, [(id, none)], [(id, some (some (.box none t cs)))], .ptr id 0⟩ := by
  intro X f' own g a w Q hr hd hx hrd K hK
  have ho : own id = none := hrd (id, none) (by simp)
  obtain ⟨l, h1, h2, h3⟩ := h X own g a w (fun x hm => by rw [← hx x hm]; exact hr.ev x)
  unfold Oper.wp
  rw [h1]
  let g' : Gh := ⟨fun i => if i = id then some w.heap.size else g.bl i, g.sv⟩
  have hg' : g.le g' := by
    refine ⟨fun i b hb => ?_, fun _ _ _ h => h⟩
    show (if i = id then _ else _) = _
    rw [if_neg]
    · exact hb
    · rintro rfl; rw [(hr.fresh i ho).1] at hb; cases hb
  have hbl : g'.bl id = some w.heap.size := if_pos rfl
  have hu : ∀ i, i ≠ id → upl own [(id, some (some (.box none t cs)))] i = own i := fun i hi => by simp only [upl, qu hi, cond_false]
  have hui : upl own [(id, some (some (.box none t cs)))] id = some (some (.box none t cs)) := by
    have : Nat.beq id id = true := by simp
    simp only [upl, this, cond_true]
  have hkp : Kp [] w (w.alloc (.cells l.toArray t)) := (Kp.refl [] w).alloc _
  have hM : ∀ b, b < w.heap.size → Mof X g' (upl own [(id, some (some (.box none t cs)))]) b → Mof X g own b := by
    intro b hb hm
    rcases hm with hm | ⟨i, o', h4, h5⟩
    · exact .inl hm
    · by_cases hi : i = id
      · subst hi
        rw [hui] at h4
        cases h4
        simp only [obk, hbl] at h5
        cases h5
        omega
      · rw [hu i hi] at h4
        rw [(hr.ob i o' h4).obk_eq hg'] at h5
        exact .inr ⟨i, o', h4, h5⟩
  have he : Ext (Mof X g own) (Mof X g' (upl own [(id, some (some (.box none t cs)))])) w (w.alloc (.cells l.toArray t)) := ⟨hkp.size, fun b hb _ _ => hkp.block b hb (by simp), hM⟩
  have hst := hr.step (own' := upl own [(id, some (some (.box none t cs)))]) (g' := g') (w' := w.alloc (.cells l.toArray t)) hg' (.inl hkp) (fun i o' h4 => by
    by_cases hi : i = id
    · subst hi
      rw [hui] at h4
      cases h4
      refine .inr ⟨⟨w.heap.size, l, hbl, (fun q hq => by cases hq), heap_alloc_new w _, h2, fun j s hs => ?_⟩, fun b hb => ?_⟩
      · obtain ⟨x, q1, q2, q3⟩ := h3 j s hs
        exact ⟨x, q1, q2.keep he hg', q3⟩
      · simp only [obk, hbl] at hb
        cases hb
        exact .inl (Nat.le_refl _)
    · rw [hu i hi] at h4
      exact .inl ⟨h4, fun b hb => hkp.block b ((hr.ob i o' h4).blk_lt hb) (by simp)⟩)
    (fun i hi => by
      by_cases hid : i = id
      · subst hid; rw [hui] at hi; cases hi
      · rw [hu i hid] at hi
        refine ⟨?_, (hr.fresh i hi).2⟩
        show (if i = id then _ else _) = _
        rw [if_neg hid]; exact (hr.fresh i hi).1)
    (fun i e size es h4 => by
      by_cases hid : i = id
      · subst hid; rw [hui] at h4; cases h4
      · rw [hu i hid] at h4
        exact hr.top i e size es h4)
    (fun i i' o1 o2 b h4 h5 h6 h7 hs => by
      have key : ∀ i o1, upl own [(id, some (some (.box none t cs)))] i = some (some o1) → obk g' i o1 = some b → i = id := by
        intro i o1 h4 h6
        by_cases hi : i = id
        · exact hi
        · rw [hu i hi] at h4
          rw [(hr.ob i o1 h4).obk_eq hg'] at h6
          have := (hr.ob i o1 h4).blk_lt h6
          omega
      rw [key i o1 h4 h6, key i' o2 h5 h7])
  exact hK g' _ _ (hst.1.put o.dst (.ptr id 0) _ hd ⟨_, hbl, rfl⟩)

theorem x6s (g:Gh) (w:World) (M:Blks) (v:Value):RepS g w M (y3f v) v:=by
 exact (rfl:v=v)

theorem qh (id:Nat) {t:TypeId} {zs:List Value} (hz:tyZ P t=some zs) (h1:zs.all (·.oneCell')=true):Stp P ⟨dst,.alloc t,ty,pos,af,gd⟩ f ⟨false,[(id,none)],[(id,some (some (.box none t (zs.map y3f))))],.ptr id 0⟩:=by
 refine z8x fun X own g a w _ => ?_
 unfold tyZ at hz
 cases hi:P.info? t with
 | none=>rw [hi] at hz; cases hz
 | some i =>
  rw [hi] at hz
  cases hzz:i.zero with
  | none=>simp [hzz] at hz
  | some z =>
   simp [hzz] at hz
   refine ⟨zs,?_,by simp,fun j s hs => ?_⟩
   ·have e1:z.cells=zs.toArray:=by rw [← hz]
    simp [execOp,Instr.alloc,zeroValue,typeInfo,hi,hzz,newVar,newRow,e1]
   ·rw [List.getElem?_map] at hs
    cases hq:zs[j]? with
    | none=>rw [hq] at hs; cases hs
    | some x =>
     rw [hq] at hs
     cases hs
     exact ⟨x,rfl,x6s g w _ x,(List.all_eq_true.1 h1) x (List.mem_of_getElem? hq)⟩

theorem z0c (id:Nat) {t:TypeId} {x:Operand} {v:V} (hx:evS f x = .dat v) (h1:v.one=true):Stp P ⟨dst,.box t x,ty,pos,af,gd⟩ f ⟨false,[(id,none)],[(id,some (some (.box none t [.dat v])))],.ptr id 0⟩:=by
 refine z8x fun X own g a w h => ?_
 have h2:=h x (by simp [Op.operands])
 rw [hx] at h2
 have h3:=v.hone h1 h2
 refine ⟨[a.eval x],?_,rfl,fun j s hs => ?_⟩
 ·have e1:(a.eval x).cells = #[a.eval x]:=by
   generalize a.eval x=u at h3
   cases u <;> first | rfl | (simp [Value.oneCell'] at h3)
  simp [execOp,Instr.box,newVar,newRow,e1]
 ·cases j with
  | zero=>cases hs; exact ⟨_,rfl,h2,h3⟩
  | succ j=>cases hs
theorem vt (id:Nat) {t:TypeId} {x:Operand} {us:List V} (hx:evS f x = .dat (vagg us)):Stp P ⟨dst,.box t x,ty,pos,af,gd⟩ f ⟨false,[(id,none)],[(id,some (some (.box none t (us.map .dat))))],.ptr id 0⟩:=by
 refine z8x fun X own g a w h => ?_
 have h2:=h x (by simp [Op.operands])
 rw [hx] at h2
 obtain ⟨l,h3,h4⟩:=h2
 refine ⟨l,?_,by simp [h4.1],fun j s hs => ?_⟩
 ·simp [execOp,Instr.box,newVar,newRow,h3,Value.cells]
 ·rw [List.getElem?_map] at hs
  cases hq:us[j]? with
  | none=>rw [hq] at hs; cases hs
  | some u =>
   rw [hq] at hs
   cases hs
   exact h4.2 j u hq

theorem z9f {t:TypeId} {b:Bool} {n:Nat} (ht:tyS P t=some (false,n)) (w:World) (ad:Addr) (v:Value) (hc:w.cell? ad=some v):(Instr.loadAt t (.pointer (some ad))).run P w = .ok v w:=by
 obtain ⟨d,i,h1,h2,h3,h4⟩:=kr ht
 have hagg:(isAgg t).run P w = .ok false w:=by
  unfold isAgg
  rw [Sem.run_bind,run_underlying h1 w]
  cases d <;> simp_all
 simp [Instr.loadAt,Instr.sureAddr,loadVar,hagg,hc]

theorem zj {t:TypeId} {n:Nat} {p:Operand} {id off:Nat} {an:Option Nat} {bt:TypeId} {cs:List Slot} {s:Slot} (ht:tyS P t=some (false,n)) (hp:evS f p = .ptr id off) (hs:cs[off]?=some s) :
  Stp P ⟨dst,.load t p,ty,pos,af,gd⟩ f ⟨false,[(id,some (some (.box an bt cs)))],[],s⟩:=by
 refine xv fun X own g a w h hob => ?_
 have h2:=h p (by simp [Op.operands])
 rw [hp] at h2
 obtain ⟨b,h3,h4⟩:=h2
 obtain ⟨b',l,q1,_,q2,q3,q4⟩:=hob
 rw [h3] at q1
 cases q1
 obtain ⟨x,r1,r2,r3⟩:=q4 off s hs
 refine ⟨x,?_,r2⟩
 have hc:w.cell? ⟨b,off,none⟩=some x:=by rw [cell_of_row w b off _ _ _ q2]; simpa using r1
 simp [execOp,h4,z9f (b:=true) ht w _ x hc]

def toV:Slot→V
 | .dat v=>v
 | _=>vval undef
def x98:Slot→Bool
 | .dat _=>true
 | _=>false
theorem wm {t:TypeId} {n:Nat} {p:Operand} {id off:Nat} {an:Option Nat} {bt:TypeId} {cs:List Slot} (ht:tyS P t=some (true,n)) (hp:evS f p = .ptr id off) (hl':Nat.ble (off+n) cs.length=true) (hd:((cs.drop off).take n).all x98=true) :
  Stp P ⟨dst,.load t p,ty,pos,af,gd⟩ f ⟨false,[(id,some (some (.box an bt cs)))],[],.dat (vagg (((cs.drop off).take n).map toV))⟩:=by
 have hl:=Nat.le_of_ble_eq_true hl'
 refine xv fun X own g a w h hob => ?_
 have h2:=h p (by simp [Op.operands])
 rw [hp] at h2
 obtain ⟨b,h3,h4⟩:=h2
 obtain ⟨b',l,q1,_,q2,q3,q4⟩:=hob
 rw [h3] at q1
 cases q1
 obtain ⟨d,i,d1,d2,d3,d4⟩:=kr ht
 refine ⟨.agg ((l.drop off).take n).toArray,?_,(l.drop off).take n,rfl,by simp; omega,fun j u hj => ?_⟩
 ·have hrun:=run_loadAt_mid (P:=P) w b off t ((l.drop off).take n) d (fun j v hv=>by
   rw [cell_of_row w b _ _ _ _ q2]
   rw [List.getElem?_take] at hv
   split at hv
   ·rw [List.getElem?_drop] at hv; simpa using hv
   ·cases hv) d1 d2 (by rw [d3]; simp [d4]; omega)
  simp [execOp,h4,hrun]
 ·rw [List.getElem?_map] at hj
  cases hq:((cs.drop off).take n)[j]? with
  | none=>rw [hq] at hj; cases hj
  | some s =>
   rw [hq] at hj
   have hd1:=(List.all_eq_true.1 hd) s (List.mem_of_getElem? hq)
   rw [List.getElem?_take] at hq
   split at hq
   ·rename_i hjn
    rw [List.getElem?_drop] at hq
    obtain ⟨x,r1,r2,r3⟩:=q4 _ s hq
    refine ⟨x,by rw [List.getElem?_take,if_pos hjn,List.getElem?_drop]; exact r1,?_,r3⟩
    cases s with
    | dat v=>cases hj; exact r2
    | any=>cases hd1
    | ptr _ _=>cases hd1
    | row _ _=>cases hd1
    | rptr _ _ _ _ _=>cases hd1
    | mp _=>cases hd1
    | rsub _ _ _ _=>cases hd1
    | nptr _=>cases hd1
    | dr _ _=>cases hd1
    | comp _ _=>cases hd1
   ·cases hq

theorem yt {t:TypeId} {n:Nat} {p:Operand} {es:List (List V)} {k c:Nat} {el:List V} {u:V} (ht:tyS P t=some (false,n)) (hp:evS f p = .dat (zx es k c)) (he:es[k]?=some el) (hu:el[c]?=some u) :
  Stp P ⟨dst,.load t p,ty,pos,af,gd⟩ f ⟨false,[],[],.dat u⟩:=by
 refine ve fun X own g a w h => ?_
 have h2:=h p (by simp [Op.operands])
 rw [hp] at h2
 obtain ⟨b,off,size,h3,hM,arr,e,fz,h4,h5,h6⟩:=h2
 obtain ⟨x,r1,r2,r3⟩:=h6 k c el u he hu
 refine ⟨x,?_,r2⟩
 have hc:w.cell? ⟨b,off+k * size+c,none⟩=some x:=by rw [cell_of_row w b _ _ _ _ h4]; exact r1
 simp [execOp,h3,z9f (b:=true) ht w _ x hc]
theorem wv {t:TypeId} {n:Nat} {p:Operand} {es:List (List V)} {k:Nat} {el:List V} (ht:tyS P t=some (true,n)) (hp:evS f p = .dat (zx es k 0)) (he:es[k]?=some el) (hn:el.length=n) :
  Stp P ⟨dst,.load t p,ty,pos,af,gd⟩ f ⟨false,[],[],.dat (vagg el)⟩:=by
 refine ve fun X own g a w h => ?_
 have h2:=h p (by simp [Op.operands])
 rw [hp] at h2
 obtain ⟨b,off,size,h3,hM,arr,e,fz,h4,h5,h6⟩:=h2
 obtain ⟨d,i,d1,d2,d3,d4⟩:=kr ht
 have hx:∀ j,j < el.length→∃ x,arr[off+k * size+j]?=some x∧(∀ u,el[j]?=some u→u.p w (Mof X g own) x)∧x.oneCell'=true:=fun j hj=>by
  obtain ⟨x,r1,r2,r3⟩:=h6 k j el el[j] he (List.getElem?_eq_getElem hj)
  exact ⟨x,r1,fun u hu=>by rw [List.getElem?_eq_getElem hj] at hu; cases hu; exact r2,r3⟩
 have hlen:((arr.toList.drop (off+k * size)).take el.length).length=el.length:=by
  rcases Nat.eq_zero_or_pos el.length with h0 | h0
  ·simp [h0]
  ·obtain ⟨x,r1,_⟩:=hx (el.length - 1) (by omega)
   have:=(Array.getElem?_eq_some_iff.1 r1).1
   simp; omega
 refine ⟨.agg ((arr.toList.drop (off+k * size)).take el.length).toArray,?_,_,rfl,hlen,fun j u hj => ?_⟩
 ·have hrun:=run_loadAt_mid (P:=P) w b (off+k * size+0) t ((arr.toList.drop (off+k * size)).take el.length) d (fun j v hv=>by
   rw [cell_of_row w b _ _ _ _ h4]
   rw [List.getElem?_take] at hv
   split at hv
   ·rw [List.getElem?_drop] at hv; simpa using hv
   ·cases hv) d1 d2 (by rw [d3]; simp only [Option.map_some,Option.some.injEq]; omega)
  simp only [execOp,h3,hrun,Sem.run_bind,Result.andThen_ok,Sem.run_pure]
 ·have hjl:j < el.length:=(List.getElem?_eq_some_iff.1 hj).1
  obtain ⟨x,r1,r2,r3⟩:=hx j hjl
  refine ⟨x,?_,r2 u hj,r3⟩
  rw [List.getElem?_take,if_pos hjl,List.getElem?_drop]
  simpa using r1

theorem x28 {t:TypeId} {i o:Nat} {ft:TypeId} (h:tyF P t i=some (o,ft)):∃ fs fl j,P.underlying t=some (.struct fs)∧fs[i]?=some fl∧fl.offset=o∧fl.type=ft∧P.info? ft=some j∧j.size≠0:=by
 unfold tyF at h
 cases hu:P.underlying t with
 | none=>rw [hu] at h; cases h
 | some d =>
  rw [hu] at h
  cases d <;> simp only at h <;> try (cases h; done)
  rename_i fs
  cases hf:fs[i]? with
  | none=>rw [hf] at h; cases h
  | some fl =>
   rw [hf] at h
   simp only [Option.bind_some] at h
   cases hj:P.info? fl.type with
   | none=>rw [hj] at h; cases h
   | some j =>
    rw [hj] at h
    simp only [Option.bind_some] at h
    by_cases hz:j.size=0
    ·rw [if_pos hz] at h; cases h
    ·rw [if_neg hz] at h
     cases h
     exact ⟨fs,fl,j,rfl,hf,rfl,rfl,hj,hz⟩
theorem y25 {t:TypeId} {i o:Nat} {ft:TypeId} (h:tyF P t i=some (o,ft)) (w:World) (b off:Nat):(Instr.fieldAt t (.pointer (some ⟨b,off,none⟩)) i).run P w = .ok (.pointer (some ⟨b,off+o,none⟩)) w:=by
 obtain ⟨fs,fl,j,h1,h2,h3,h4,h5,h6⟩:=x28 h
 have e1:(⟨b,off,none⟩:Addr).add o=⟨b,off+o,none⟩:=Addr.add_mid b off o
 simp [Instr.fieldAt,run_underlying h1,h2,Instr.sureAddr,fieldPlace,sizeOf,typeInfo,h4,h5,h6,h3,e1]
theorem ze {t:TypeId} {i o:Nat} {ft:TypeId} {p:Operand} {id off:Nat} (h:tyF P t i=some (o,ft)) (hp:evS f p = .ptr id off):Stp P ⟨dst,.fieldAddr t p i,ty,pos,af,gd⟩ f ⟨false,[],[],.ptr id (off+o)⟩:=
 ve fun X own g a w hh=>by
  have h2:=hh p (by simp [Op.operands])
  rw [hp] at h2
  obtain ⟨b,h3,h4⟩:=h2
  exact ⟨_,by simp only [execOp,h4,Sem.run_bind,y25 h w b off,Result.andThen_ok,Sem.run_pure],b,h3,rfl⟩
theorem wd {t:TypeId} {i o:Nat} {ft:TypeId} {p:Operand} {es:List (List V)} {k c:Nat} (h:tyF P t i=some (o,ft)) (hp:evS f p = .dat (zx es k c)):Stp P ⟨dst,.fieldAddr t p i,ty,pos,af,gd⟩ f ⟨false,[],[],.dat (zx es k (c+o))⟩:=
 ve fun X own g a w hh=>by
  have h2:=hh p (by simp [Op.operands])
  rw [hp] at h2
  obtain ⟨b,off,size,h3,h4⟩:=h2
  refine ⟨.pointer (some ⟨b,off+k * size+c+o,none⟩),?_,b,off,size,by rw [Nat.add_assoc],h4⟩
  simp only [execOp,h3,Sem.run_bind,y25 h w b _,Result.andThen_ok,Sem.run_pure]

theorem z23 {t e:TypeId} {n:Nat} (h:tyE P t=some (e,n)):∃ i,P.underlying t=some (.slice e)∧P.info? e=some i∧i.size=n:=by
 unfold tyE at h
 cases hu:P.underlying t with
 | none=>rw [hu] at h; cases h
 | some d =>
  rw [hu] at h
  cases d <;> simp only at h <;> try (cases h; done)
  rename_i e'
  cases hj:P.info? e' with
  | none=>rw [hj] at h; cases h
  | some j=>rw [hj] at h; simp at h; obtain ⟨rfl,rfl⟩:=h; exact ⟨j,rfl,hj,rfl⟩
theorem y6q {t e:TypeId} {n:Nat} {x ix:Operand} {es:List (List V)} {k:Nat} (h:tyE P t=some (e,n)) (hx:evS f x = .dat (vlst es)) (hi:evS f ix = .dat (vint (k:Int))) (hk:k < es.length) (hn:∀ el,el∈es→el.length=n) :
  Stp P ⟨dst,.indexAddr t x ix,ty,pos,af,gd⟩ f ⟨false,[],[],.dat (zx es k 0)⟩:=
 ve fun X own g a w hh=>by
  have h2:=hh x (by simp [Op.operands])
  have h3:=vc (hh ix (by simp [Op.operands])) hi
  rw [hx] at h2
  obtain ⟨A,c,q1,q2,q3⟩:=h2
  obtain ⟨b,off,size,q4,q5⟩:=q3 (by rintro rfl; simp at hk)
  obtain ⟨i,d1,d2,d3⟩:=z23 h
  have hsz:n=size:=by
   obtain ⟨_,arr,e',fz,_,h5,_⟩:=q5
   rw [← hn es[k] (List.getElem_mem hk),h5 es[k] (List.getElem_mem hk)]
  subst hsz
  subst q4
  refine ⟨_,?_,b,off,n,rfl,q5⟩
  have e1:(⟨b,off,none⟩:Addr).add (k * n)=⟨b,off+k * n,none⟩:=Addr.add_mid b off (k * n)
  simp [execOp,h3,q1,Instr.indexAt,asIntOf,run_underlying d1,sizeOf,typeInfo,d2,d3,hk,e1]
end
end Go.Proofs.YtgdijjmdfcgifaaGreat
namespace Go.Proofs.YtgdijjmdfcgifaaGreat
open Go.RowKit
set_option linter.unusedVariables false

abbrev vnil:V:=vval (.slice none 0 0)

section
variable {P:Program} {f:Nat→Slot} {dst:Option Tmp} {ty:TypeId} {pos:String} {af:Array Edge} {gd:Option (Nat×Bool)}

theorem je {own:Own} {id:Nat} {q:Option (Option AObj)}:upl own [(id,q)] id=q:=by
 have:Nat.beq id id=true:=by simp
 simp only [upl,this,cond_true]
theorem jb {own:Own} {id i:Nat} {q:Option (Option AObj)} (h:i≠id):upl own [(id,q)] i=own i:=by
 simp only [upl,qu h,cond_false]

theorem z0h {X:Ctx} {f':Nat→Slot} {own:Own} {g g':Gh} {a:Act} {w w':World} {id:Nat} {ob':AObj} (hr:Rel X f' own g a w) (hg:g.le g')
  (hoth:∀ i,i≠id→g'.bl i=g.bl i∧∀ n,g'.sv i n=g.sv i n) (hkp:Kp [] w w'∨∃ ob b,own id=some (some ob)∧obk g id ob=some b∧Kp [b] w w')
  (hbk:∀ b,obk g' id ob'=some b→w.heap.size≤b∨∃ ob,own id=some (some ob)∧obk g id ob=some b) (htop:∀ e size es,ob' = .row e size es→∀ k,es.length < k→g'.sv id k=none)
  (hob:∀ M',Ext (Mof X g own) M' w w'→(∀ b,w.heap.size≤b→M' b→obk g' id ob'=some b)→RepO g' w' M' id ob') :
  Rel X f' (upl own [(id,some (some ob'))]) g' a w'∧Ext (Mof X g own) (Mof X g' (upl own [(id,some (some ob'))])) w w':=by
 have hblk:∀ i o b,i≠id→own i=some (some o)→obk g i o=some b→w'.heap[b]?=w.heap[b]?:=by
  intro i o b hi ho hb
  have hlt:=(hr.ob i o ho).blk_lt hb
  rcases hkp with hk | ⟨ob,b',h1,h2,hk⟩
  ·exact hk.block b hlt (by simp)
  ·refine hk.block b hlt ?_
   intro hm
   have:b=b':=by simpa using hm
   subst this
   exact hi (hr.sep i id o ob b ho h1 hb h2)
 have hsz:w.heap.size≤w'.heap.size:=by rcases hkp with hk | ⟨_,_,_,_,hk⟩ <;> exact hk.size
 have he:Ext (Mof X g own) (Mof X g' (upl own [(id,some (some ob'))])) w w':=by
  refine ⟨hsz,fun b hb hM _ => ?_,fun b hb hM => ?_⟩
  ·rcases hkp with hk | ⟨ob,b',h1,h2,hk⟩
   ·exact hk.block b hb (by simp)
   ·refine hk.block b hb ?_
    intro hm
    have:b=b':=by simpa using hm
    subst this
    exact hM (.inr ⟨id,ob,h1,h2⟩)
  ·rcases hM with hM | ⟨i,o,h1,h2⟩
   ·exact .inl hM
   ·by_cases hi:i=id
    ·subst hi
     rw [je] at h1
     cases h1
     rcases hbk b h2 with h3 | ⟨ob,h3,h4⟩
     ·omega
     ·exact .inr ⟨i,ob,h3,h4⟩
    ·rw [jb hi] at h1
     rw [(hr.ob i o h1).obk_eq hg] at h2
     exact .inr ⟨i,o,h1,h2⟩
 refine hr.step hg (hkp.imp (fun h=>h) fun ⟨ob,b,h1,h2,h3⟩=>⟨id,ob,b,h1,h2,h3⟩) (fun i o h1 => ?_) (fun i hi => ?_) (fun i e size es h1 => ?_) (fun i i' o1 o2 b h4 h5 h6 h7 hs => ?_)
 ·by_cases hi:i=id
  ·subst hi
   rw [je] at h1
   cases h1
   refine .inr ⟨hob _ he (fun b hb hM => ?_),hbk⟩
   rcases hM with hM | ⟨i',o',h2,h3⟩
   ·have:=(hr.m0.1 b hM).1
    have:=hr.kp.size
    omega
   ·by_cases hi':i'=i
    ·subst hi'
     rw [je] at h2
     cases h2
     exact h3
    ·rw [jb hi'] at h2
     rw [(hr.ob i' o' h2).obk_eq hg] at h3
     have:=(hr.ob i' o' h2).blk_lt h3
     omega
  ·rw [jb hi] at h1
   exact .inl ⟨h1,fun b hb=>hblk i o b hi h1 hb⟩
 ·by_cases hid:i=id
  ·subst hid; rw [je] at hi; cases hi
  ·rw [jb hid] at hi
   obtain ⟨q1,q2⟩:=hoth i hid
   obtain ⟨r1,r2⟩:=hr.fresh i hi
   exact ⟨q1.trans r1,fun n=>(q2 n).trans (r2 n)⟩
 ·by_cases hid:i=id
  ·subst hid; rw [je] at h1; cases h1; exact htop e size es rfl
  ·rw [jb hid] at h1
   exact fun k hk=>((hoth i hid).2 k).trans (hr.top i e size es h1 k hk)
 ·have key:∀ i o1,upl own [(id,some (some ob'))] i=some (some o1)→obk g' i o1=some b→i=id:=by
   intro i o1 h4 h6
   by_cases hi:i=id
   ·exact hi
   ·rw [jb hi] at h4
    rw [(hr.ob i o1 h4).obk_eq hg] at h6
    have:=(hr.ob i o1 h4).blk_lt h6
    omega
  rw [key i o1 h4 h6,key i' o2 h5 h7]

theorem y2m {o:Oper} {id:Nat} {an:Option Nat} {bt:TypeId} {cs cs':List Slot} (hl:cs'.length=cs.length)
  (h:∀ (X:Ctx) (own:Own) (g:Gh) (a:Act) (w:World),(∀ x,x∈o.op.operands→RepS g w (Mof X g own) (evS f x) (a.eval x))→∀ (b:Nat) (l:List Value),g.bl id=some b→w.heap[b]?=some (.cells l.toArray bt (0,0))→l.length=cs.length →
   ∃ (w':World) (l':List Value),(execOp a.eval o).run P w = .ok .skip w'∧Kp [b] w w'∧w'.heap[b]?=some (.cells l'.toArray bt (0,0))∧l'.length=cs.length ∧
    ∀ (j:Nat) (s:Slot),cs'[j]?=some s→(cs[j]?=some s∧l'[j]?=l[j]?)∨∃ x,l'[j]?=some x∧RepS g w (Mof X g own) s x∧x.oneCell'=true) :
  Stp P o f ⟨false,[(id,some (some (.box an bt cs)))],[(id,some (some (.box an bt cs')))],.any⟩:=by
 intro X f' own g a w Q hr hd hx hrd K hK
 have ho:own id=some (some (.box an bt cs)):=hrd (id,some (some (.box an bt cs))) (by simp)
 obtain ⟨b,l,q1,q0,q2,q3,q4⟩:=hr.ob id _ ho
 obtain ⟨w',l',h1,h2,h3,h4,h5⟩:=h X own g a w (fun x hm=>by rw [← hx x hm]; exact hr.ev x) b l q1 q2 q3
 unfold Oper.wp
 rw [h1]
 have hst:=z0h (id:=id) (ob' := .box an bt cs') (w':=w') hr (Gh.le_refl g) (fun i _=>⟨rfl,fun _=>rfl⟩) (.inr ⟨_,b,ho,q1,h2⟩) (fun b' hb' => .inr ⟨_,ho,hb'⟩) (fun e size es h=>by cases h) (fun M' he _=>⟨b,l',q1,q0,h3,h4.trans hl.symm,fun j s hs=>by
  rcases h5 j s hs with ⟨r1,r2⟩ | ⟨x,r1,r2,r3⟩
  ·obtain ⟨x,s1,s2,s3⟩:=q4 j s r1
   exact ⟨x,r2.trans s1,s2.keep he (Gh.le_refl g),s3⟩
  ·exact ⟨x,r1,r2.keep he (Gh.le_refl g),r3⟩⟩)
 exact hK g undef w' (hst.1.put o.dst .any undef hd trivial)

theorem y1e {v:Value} (h:v.oneCell'=true):v.cells = #[v]:=by
 cases v <;> first | rfl | (simp [Value.oneCell'] at h)

theorem z9e {t:TypeId} {b0:Bool} (ht:tyS P t=some (b0,1)) (w:World) (b off:Nat) (l:List Value) (bt:TypeId) (v:Value) (hb:w.heap[b]?=some (.cells l.toArray bt (0,0))) (ho:off < l.length) (h1:v.oneCell'=true) :
  (Instr.storeAt t (.pointer (some ⟨b,off,none⟩)) v).run P w = .ok () (w.setCell ⟨b,off,none⟩ v):=by
 obtain ⟨d,i,d1,d2,d3,d4⟩:=kr ht
 have hc:w.cell? ⟨b,off,none⟩=some l[off]:=by rw [cell_of_row w b _ _ _ _ hb]; simp [ho]
 have hf:w.frozen? ⟨b,off,none⟩=false:=by simp [World.frozen?,hb]
 have hst:(store (⟨b,off,none⟩:Addr) v).run P w = .ok () (w.setCell ⟨b,off,none⟩ v):=by
  cases v <;> first | (simp [Value.oneCell'] at h1; done) | simp [store,Sem.run,hc,hf]
 simp [Instr.storeAt,Instr.sureAddr,storeVar,sizeOf,typeInfo,d3,d4,y1e h1,storeCells]
 exact hst

theorem vf {t:TypeId} {b0:Bool} {p x:Operand} {id off:Nat} {an:Option Nat} {bt:TypeId} {cs:List Slot} {v:V} (ht:tyS P t=some (b0,1)) (hp:evS f p = .ptr id off) (hx:evS f x = .dat v) (h1:v.one=true) (ho':Nat.blt off cs.length=true) :
  Stp P ⟨dst,.store t p x,ty,pos,af,gd⟩ f ⟨false,[(id,some (some (.box an bt cs)))],[(id,some (some (.box an bt (cs.set off (.dat v)))))],.any⟩:=by
 have ho:off < cs.length:=by simpa [Nat.blt_eq] using ho'
 refine y2m (by simp) fun X own g a w h b l q1 q2 q3 => ?_
 have h2:=h p (by simp [Op.operands])
 have h3:=h x (by simp [Op.operands])
 rw [hp] at h2
 rw [hx] at h3
 obtain ⟨b',r1,r2⟩:=h2
 rw [q1] at r1
 cases r1
 have h4:=v.hone h1 h3
 refine ⟨w.setCell ⟨b,off,none⟩ (a.eval x),l.set off (a.eval x),?_,(Kp.refl [b] w).set_ (.inl (by simp)) _,?_,by simp [q3],fun j s hs => ?_⟩
 ·simp only [execOp,r2,Sem.run_bind,z9e ht w b off l bt _ q2 (by omega) h4,Result.andThen_ok,Sem.run_pure]
 ·have:=Blk.set_ (show Blk w b bt l.toArray from q2) off (a.eval x)
  unfold Blk at this
  simpa using this
 ·rw [List.getElem?_set] at hs
  by_cases hj:off=j
  ·subst hj
   rw [if_pos rfl,if_pos ho] at hs
   cases hs
   exact .inr ⟨a.eval x,by rw [List.getElem?_set_self (by omega)],h3,h4⟩
  ·rw [if_neg hj] at hs
   exact .inl ⟨hs,by rw [List.getElem?_set_ne hj]⟩

theorem qf {t:TypeId} {n:Nat} {p x:Operand} {id:Nat} {an:Option Nat} {bt:TypeId} {cs:List Slot} {us:List V} (ht:tyS P t=some (true,n)) (hp:evS f p = .ptr id 0) (hx:evS f x = .dat (vagg us)) (hn:us.length=n) (hc:cs.length=n) :
  Stp P ⟨dst,.store t p x,ty,pos,af,gd⟩ f ⟨false,[(id,some (some (.box an bt cs)))],[(id,some (some (.box an bt (us.map .dat))))],.any⟩:=by
 refine y2m (by simp; omega) fun X own g a w h b l q1 q2 q3 => ?_
 have h2:=h p (by simp [Op.operands])
 have h3:=h x (by simp [Op.operands])
 rw [hp] at h2
 rw [hx] at h3
 obtain ⟨b',r1,r2⟩:=h2
 rw [q1] at r1
 cases r1
 obtain ⟨l',s1,s2⟩:=h3
 have hone:∀ v∈l',v.oneCell'=true:=fun v hv=>by
  obtain ⟨j,hj,rfl⟩:=List.getElem_of_mem hv
  have:j < us.length:=by have:=s2.1; omega
  obtain ⟨x',t1,_,t3⟩:=s2.2 j us[j] (List.getElem?_eq_getElem this)
  rw [List.getElem?_eq_getElem hj] at t1
  cases t1
  exact t3
 obtain ⟨d,i,d1,d2,d3,d4⟩:=kr ht
 have hrun:=run_storeAt_mid (P:=P) w b 0 t l'.toArray (fun j hj=>by
  have hj':j < l.length:=by have:=s2.1; simp at hj; omega
  refine ⟨?_,?_⟩
  ·rw [cell_of_row w b _ _ _ _ q2]; simp [hj']
  ·simp [World.frozen?,q2]) (by rw [d3]; simp [d4,s2.1,hn]) (by simpa using hone)
 refine ⟨w.setCells b 0 l',l',by simp only [execOp,r2,s1,Sem.run_bind,hrun,Result.andThen_ok,Sem.run_pure],?_,?_,by rw [s2.1]; omega,fun j s hs => ?_⟩
 ·have:Kp [b] w (w.setCells b 0 l'):=by
   have key:∀ (vs:List Value) (w1:World) (o:Nat),Kp [b] w w1→Kp [b] w (w1.setCells b o vs):=by
    intro vs
    induction vs with
    | nil=>intro w1 o hk; rw [World.setCells]; exact hk
    | cons v vs ih=>intro w1 o hk; rw [World.setCells]; exact ih _ _ (hk.set_ (.inl (by simp)) v)
   exact key l' w 0 (Kp.refl _ _)
  exact this
 ·have key:∀ (vs:List Value) (w1:World) (o:Nat) (pre:List Value),pre.length=o→w1.heap[b]?=some (.cells (pre++l.drop o).toArray bt (0,0))→o+vs.length≤l.length→(w1.setCells b o vs).heap[b]?=some (.cells (pre++vs++l.drop (o+vs.length)).toArray bt (0,0)):=by
   intro vs
   induction vs with
   | nil=>intro w1 o pre hp hb _; rw [World.setCells]; simpa using hb
   | cons v vs ih =>
    intro w1 o pre hp hb hlen
    have hd:l.drop o=l[o]'(by simp at hlen; omega)::l.drop (o+1):=List.drop_eq_getElem_cons (by simp at hlen; omega)
    have h1:=Blk.set_ (show Blk w1 b bt _ from hb) o v
    unfold Blk at h1
    have h2:=ih (w1.setCell ⟨b,o,none⟩ v) (o+1) (pre++[v]) (by simp [hp]) (by
     rw [h1,hd]
     congr 2
     simp only [List.setIfInBounds_toArray]
     congr 1
     rw [List.set_append_right _ _ (by omega),hp,Nat.sub_self,List.set_cons_zero]
     simp) (by simp at hlen ⊢; omega)
    rw [World.setCells]
    simpa [Nat.add_comm,Nat.add_left_comm,Nat.add_assoc] using h2
  have h1:=key l' w 0 [] rfl (by simpa using q2) (by have:=s2.1; omega)
  have h2:l.drop (0+l'.length)=[]:=List.drop_eq_nil_of_le (by have:=s2.1; omega)
  rw [h2] at h1
  simpa using h1
 ·rw [List.getElem?_map] at hs
  cases hq:us[j]? with
  | none=>rw [hq] at hs; cases hs
  | some u =>
   rw [hq] at hs
   cases hs
   exact .inr (s2.2 j u hq)

theorem uc {x:Operand} {us:List V} {i:Nat} {u:V} (hx:evS f x = .dat (vtup us)) (hu:us[i]?=some u):Stp P ⟨dst,.extract x i,ty,pos,af,gd⟩ f ⟨false,[],[],.dat u⟩:=
 ve fun X own g a w h=>by
  have h2:=h x (by simp [Op.operands])
  rw [hx] at h2
  obtain ⟨l,h3,h4⟩:=h2
  obtain ⟨v,q1,q2⟩:=h4.2 i u hu
  exact ⟨v,by simp [execOp,h3,Instr.extract,q1],q2⟩
def ki (P : Program) (fn : Nat) : Bool := match P.funcs[fn]? with
  | some fc => (!(fc.name == "runtime.NumGoroutine")) && fc.body.isSome
  | none => false
def Fn (P:Program) (fn:Nat) (args:List V) (res:V):Prop:=ki P fn=true∧Pure P fn args res

def argV (s:Slot) (u:V):Prop:=s = .dat u∨(s = .dat vnil∧u=vlst [])
theorem y43 {g:Gh} {w:World} {M:Blks} {s:Slot} {u:V} {v:Value} (h:argV s u) (hv:RepS g w M s v):u.p w M v:=by
 rcases h with rfl | ⟨rfl,rfl⟩
 ·exact hv
 ·exact ⟨none,0,hv,Nat.le_refl _,fun h=>absurd rfl h⟩
def z4x (f:Nat→Slot):List Operand→List V→Prop
 | [],[]=>True
 | x::xs,u::us=>argV (evS f x) u∧z4x f xs us
 | _,_=>False
theorem y1i {g:Gh} {w:World} {M:Blks} {ev:Operand→Value}:∀ (xs:List Operand) (us:List V),z4x f xs us→(∀ x,x∈xs→RepS g w M (evS f x) (ev x))→Ts w M us (xs.map ev):=by
 intro xs
 induction xs with
 | nil =>
  intro us h _
  cases us with
  | nil=>exact ⟨rfl,fun j u hj=>by simp at hj⟩
  | cons u us=>cases h
 | cons x xs ih =>
  intro us h hv
  cases us with
  | nil=>cases h
  | cons u us =>
   have h2:=ih us h.2 (fun y hy=>hv y (List.mem_cons_of_mem _ hy))
   refine ⟨by simp [h2.1],fun j u' hj => ?_⟩
   cases j with
   | zero=>simp at hj; subst hj; exact ⟨_,rfl,y43 h.1 (hv x (by simp))⟩
   | succ j=>exact h2.2 j u' (by simpa using hj)

theorem z1m {fn : Nat} (hc : ki P fn = true) (xs : Array Operand) (ts : Array TypeId) (ev : Operand → Value) (hev : ev (.func fn) = .func (.func fn) #[] #[]) (w : World) :
    (execOp ev ⟨dst, .call { callee := .value (.func fn), args := xs, argTypes := ts }, ty, pos, af, gd⟩).run P w = .ok (.enter fn (xs.map ev)) w := by
  unfold ki at hc
  cases hf : P.funcs[fn]? with
  | none => rw [hf] at hc; cases hc
  | some fc =>
    rw [hf] at hc
    simp only [Bool.and_eq_true, Bool.not_eq_true'] at hc
    have h1 : ¬ fc.name = "runtime.NumGoroutine" := by simpa using hc.1
    have h2 : ¬ fc.body = none := by
      intro hb; rw [hb] at hc; cases hc.2
    simp [execOp, resolve, hev, Deferred.ofValue, invoke, callFunc, hf, h1, h2]

theorem ye {fn:Nat} {xs:Array Operand} {ts:Array TypeId} {us:List V} {res:V} (hF:Fn P fn us res) (ha:z4x f xs.toList us):Stp P ⟨dst,.call { callee := .value (.func fn),args:=xs,argTypes:=ts },ty,pos,af,gd⟩ f ⟨false,[],[],.dat res⟩:=by
 intro X f' own g a w Q hr hd hx hrd K hK
 unfold Oper.wp
 rw [z1m hF.1 xs ts a.eval rfl w]
 show Calls P fn (xs.map a.eval) w _
 have hT:Ts w (Mof X g own) us (xs.map a.eval).toList:=by
  rw [Array.toList_map]
  exact y1i xs.toList us ha (fun x hm=>by
   have:=hx x (by simp only [Op.operands,Call.operands]; simp at hm ⊢; exact .inr hm)
   rw [← this]; exact hr.ev x)
 refine (hF.2 _ w _ hr.mlt hT).mono ?_
 rintro e w' ⟨v,rfl,h1,h2⟩
 exact hK g v w' ((hr.grow h2).put _ (.dat res) v hd h1)
end
end Go.Proofs.YtgdijjmdfcgifaaGreat
namespace Go.Proofs.YtgdijjmdfcgifaaGreat
open Go.RowKit
set_option linter.unusedVariables false

theorem Yx {k n c size:Nat} (h:k < n) (hc:c < size):k * size+c < n * size:=by
 have h1:(k+1) * size≤n * size:=Nat.mul_le_mul_right _ h
 have h2:(k+1) * size=k * size+size:=Nat.succ_mul k size
 omega

section
variable {P:Program} {f:Nat→Slot} {dst:Option Tmp} {ty:TypeId} {pos:String} {af:Array Edge} {gd:Option (Nat×Bool)}

theorem Qr {o:Oper} {id:Nat} {q:Option (Option AObj)} {ob':AObj} {s:Slot}
  (h:∀ (X:Ctx) (f':Nat→Slot) (own:Own) (g:Gh) (a:Act) (w:World),Rel X f' own g a w→own id=q→(∀ x,x∈o.op.operands→RepS g w (Mof X g own) (evS f x) (a.eval x)) →
   ∃ (g':Gh) (w':World) (nx:Next) (v:Value),g.le g'∧(∀ i,i≠id→g'.bl i=g.bl i∧∀ n,g'.sv i n=g.sv i n)∧(execOp a.eval o).run P w = .ok nx w'∧(nx = .value v∨(nx = .skip∧v=undef)) ∧
    (Kp [] w w'∨∃ ob b,own id=some (some ob)∧obk g id ob=some b∧Kp [b] w w')∧(∀ b,obk g' id ob'=some b→w.heap.size≤b∨∃ ob,own id=some (some ob)∧obk g id ob=some b) ∧
    (∀ e size es,ob' = .row e size es→∀ k,es.length < k→g'.sv id k=none)∧∀ M',Ext (Mof X g own) M' w w'→RepO g' w' M' id ob'∧RepS g' w' M' s v) :
  Stp P o f ⟨false,[(id,q)],[(id,some (some ob'))],s⟩:=by
 intro X f' own g a w Q hr hd hx hrd K hK
 have ho:own id=q:=hrd (id,q) (by simp)
 obtain ⟨g',w',nx,v,h1,h2,h3,h4,h5,h6,h7,h8⟩:=h X f' own g a w hr ho (fun x hm=>by rw [← hx x hm]; exact hr.ev x)
 obtain ⟨hr',he⟩:=z0h (id:=id) (ob':=ob') hr h1 h2 h5 h6 h7 (fun M' he _=>(h8 M' he).1)
 have hfin:=hK g' v w' (hr'.put o.dst s v hd (h8 _ he).2)
 unfold Oper.wp
 rw [h3]
 rcases h4 with rfl | ⟨rfl,rfl⟩
 ·exact hfin
 ·exact hfin

theorem x5v {w:World} {M:Blks} {b off size:Nat} {es:List (List V)} (h:z2j w M b off size es):∃ l:List Value,l.length=es.length * size∧(∀ j u,l[j]?=some u→w.cell? ((⟨b,off,none⟩:Addr).add j)=some u)∧(∀ u,u∈l→u.oneCell'=true) ∧
  ∀ (k c:Nat) (el:List V) (u:V),es[k]?=some el→el[c]?=some u→∃ x,l[k * size+c]?=some x∧u.p w M x∧x.oneCell'=true:=by
 obtain ⟨_,arr,e,fz,h1,h2,h3⟩:=h
 have hat:∀ j,j < es.length * size→∃ x,arr[off+j]?=some x∧x.oneCell'=true:=by
  intro j hj
  have hs:0 < size:=by
   rcases Nat.eq_zero_or_pos size with h0 | h0
   ·subst h0; simp at hj
   ·exact h0
  have hk:j / size < es.length:=(Nat.div_lt_iff_lt_mul hs).2 hj
  have hc:j % size < size:=Nat.mod_lt _ hs
  have hel:=h2 es[j / size] (List.getElem_mem hk)
  obtain ⟨x,q1,q2,q3⟩:=h3 (j / size) (j % size) es[j / size] (es[j / size]'hk)[j % size] (List.getElem?_eq_getElem hk) (List.getElem?_eq_getElem (by omega))
  refine ⟨x,?_,q3⟩
  have e1:off+j / size * size+j % size=off+j:=by
   have:=Nat.div_add_mod j size
   rw [Nat.mul_comm] at this
   omega
  rw [e1] at q1
  exact q1
 refine ⟨(List.range (es.length * size)).map fun j=>arr.getD (off+j) undef,by simp,fun j u hu => ?_,fun u hu => ?_,fun k c el u hk hc => ?_⟩
 ·have hj:j < es.length * size:=by
   have:=(List.getElem?_eq_some_iff.1 hu).1
   simpa using this
  obtain ⟨x,q1,_⟩:=hat j hj
  rw [List.getElem?_map,List.getElem?_range hj] at hu
  simp only [Option.map_some,Option.some.injEq] at hu
  rw [Addr.add_mid,cell_of_row w b _ _ _ _ h1,q1,← hu,Array.getD_eq_getD_getElem?,q1]
  rfl
 ·obtain ⟨j,hj,rfl⟩:=List.mem_map.1 hu
  obtain ⟨x,q1,q2⟩:=hat j (List.mem_range.1 hj)
  rw [Array.getD_eq_getD_getElem?,q1]
  exact q2
 ·have hkl:=(List.getElem?_eq_some_iff.1 hk).1
  have hel:=h2 el (List.mem_of_getElem? hk)
  have hcl:=(List.getElem?_eq_some_iff.1 hc).1
  obtain ⟨x,q1,q2,q3⟩:=h3 k c el u hk hc
  refine ⟨x,?_,q2,q3⟩
  rw [List.getElem?_map,List.getElem?_range (Yx hkl (by omega)),Option.map_some,← Nat.add_assoc,Array.getD_eq_getD_getElem?,q1]
  rfl

theorem x5u {t:TypeId} {x y:Operand} {v1 v2 v':Value} {w w':World} {ev:Operand→Value} (hx:ev x=v1) (hy:ev y=v2) (h:(Builtin.append_ #[t,t] ty #[v1,v2]).run P w = .ok v' w') :
  (execOp ev ⟨dst,.call { callee := .builtin .append,args := #[x,y],argTypes := #[t,t] },ty,pos,af,gd⟩).run P w = .ok (.value v') w':=by
 subst hx hy
 simp only [execOp,resolve,invoke,builtin,Sem.run_bind,Sem.run_pure,Result.andThen_ok,List.map_toArray,List.map_cons,List.map_nil]
 rw [h]
 rfl

theorem w2d {X:Ctx} {own:Own} {g:Gh} {w:World} {t e:TypeId} {size bytes:Nat} {es news:List (List V)} {v:Value} {xs:List Value} {A:Option Addr} {c:Nat}
  (hE:Elem P t e size bytes) (hown:w.ownsRow 0 e size v es.length xs) (hes:∀ el,el∈es→el.length=size) (hxs:∀ (k c:Nat) (el:List V) (u:V),es[k]?=some el→el[c]?=some u→∃ x,xs[k * size+c]?=some x∧u.p w (Mof X g own) x∧x.oneCell'=true)
  (hA:news≠[]→∃ b off size,A=some ⟨b,off,none⟩∧z2j w (Mof X g own) b off size news) (hne:news≠[]) (hn:∀ el,el∈news→el.length=size) (hlen:es.length+news.length≤1000000000) (hby:(es.length+news.length) * bytes≤140737488355328) :
  ∃ v' w' xs',(Builtin.append_ #[t,t] ty #[v,.slice A news.length c]).run P w = .ok v' w'∧w'.ownsRow 0 e size v' (es++news).length xs'∧w.grownBy w' v.ownBlock∧(v'.ownBlock=v.ownBlock∨v'.ownBlock=some w.heap.size)∧0 < size∧(∀ el,el∈es++news→el.length=size) ∧
   ∀ M',Ext (Mof X g own) M' w w'→∀ (k c:Nat) (el:List V) (u:V),(es++news)[k]?=some el→el[c]?=some u→∃ x,xs'[k * size+c]?=some x∧u.p w' M' x∧x.oneCell'=true:=by
 obtain ⟨b,off,size',rfl,hrow⟩:=hA hne
 obtain ⟨i,z,e1,e2,e3,e4,e5,e6,e7⟩:=hE
 have hsz:size'=size:=by
  obtain ⟨_,_,_,_,_,h2,_⟩:=hrow
  cases news with
  | nil=>exact absurd rfl hne
  | cons el _=>rw [← h2 el (by simp),hn el (by simp)]
 subst hsz
 obtain ⟨l,l1,l2,l3,l4⟩:=x5v hrow
 obtain ⟨v',w',r1,r2,r3,r4,r5⟩:=run_append_own_at (P:=P) w 0 t ty e i z size' bytes e1 e2 e3 e4 e5 e6 e7 v es.length xs hown ⟨b,off,none⟩ news.length c l l1 l2 l3 (by unfold maxLen; omega) hby (Nat.zero_le _)
 refine ⟨v',w',xs++l,r1,by rw [List.length_append]; exact r2,r3,r5,e7,fun el hel => ?_,fun M' he k c' el u hk hc => ?_⟩
 ·rcases List.mem_append.1 hel with h | h
  ·exact hes el h
  ·exact hn el h
 ·have hcl:=(List.getElem?_eq_some_iff.1 hc).1
  rcases Nat.lt_or_ge k es.length with hl | hl
  ·rw [List.getElem?_append_left hl] at hk
   obtain ⟨x,q1,q2,q3⟩:=hxs k c' el u hk hc
   have h1:=hes el (List.mem_of_getElem? hk)
   exact ⟨x,by rw [List.getElem?_append_left (by rw [hown.1]; exact Yx hl (by omega))]; exact q1,u.keep he q2,q3⟩
  ·rw [List.getElem?_append_right hl] at hk
   obtain ⟨x,q1,q2,q3⟩:=l4 (k - es.length) c' el u hk hc
   refine ⟨x,?_,u.keep he q2,q3⟩
   have h1:xs.length≤k * size'+c':=by
    rw [hown.1]
    have:=Nat.mul_le_mul_right size' hl
    omega
   rw [List.getElem?_append_right h1]
   have h2:k * size'+c' - xs.length=(k - es.length) * size'+c':=by
    rw [hown.1,Nat.sub_mul]
    have:=Nat.mul_le_mul_right size' hl
    omega
   rw [h2]; exact q1

theorem y6s {t e:TypeId} {size bytes:Nat} {x y:Operand} {id:Nat} {es news:List (List V)} (hE:Elem P t e size bytes) (hx:evS f x = .row id es.length) (hy:evS f y = .dat (vlst news)) (hne:news≠[]) (hn:∀ el,el∈news→el.length=size)
  (hlen:es.length+news.length≤1000000000) (hby:(es.length+news.length) * bytes≤140737488355328) :
  Stp P ⟨dst,.call { callee := .builtin .append,args := #[x,y],argTypes := #[t,t] },ty,pos,af,gd⟩ f ⟨false,[(id,some (some (.row e size es)))],[(id,some (some (.row e size (es++news))))],.row id (es++news).length⟩:=by
 refine Qr fun X f' own g a w hr ho h => ?_
 have h1:=h x (by simp [Op.operands,Call.operands])
 have h2:=h y (by simp [Op.operands,Call.operands])
 rw [hx] at h1
 rw [hy] at h2
 obtain ⟨v,xs,q1,q2,q3,q4,q5⟩:=hr.ob id _ ho
 have hv:g.sv id es.length=some (a.eval x):=h1
 rw [hv] at q1
 cases q1
 obtain ⟨A,c,p1,p2,p3⟩:=h2
 obtain ⟨v',w',xs',r1,r2,r3,r4,r5,r6,r7⟩:=w2d (ty:=ty) (X:=X) (own:=own) (g:=g) (c:=c) hE q2 q4 q5 p3 hne hn hlen hby
 have hpos:0 < news.length:=by cases news with | nil=>exact absurd rfl hne | cons _ _=>simp
 have hlt:es.length < (es++news).length:=by rw [List.length_append]; omega
 let g':Gh:=⟨g.bl,fun i k=>if i=id∧k=(es++news).length then some v' else g.sv i k⟩
 have hsv:g'.sv id (es++news).length=some v':=if_pos ⟨rfl,rfl⟩
 refine ⟨g',w',.value v',v',⟨fun _ _ h=>h,fun i k u hu => ?_⟩,fun i hi=>⟨rfl,fun k=>if_neg fun h=>hi h.1⟩,x5u rfl p1 r1,.inl rfl,?_,fun b hb => ?_,fun e' s' es' he k hk => ?_,fun M' he=>⟨⟨v',xs',hsv,r2,r5,r6,r7 M' he⟩,hsv⟩⟩
 ·show (if i=id∧k=(es++news).length then some v' else g.sv i k)=some u
  rw [if_neg]
  ·exact hu
  ·rintro ⟨rfl,rfl⟩
   rw [hr.top i e size es ho _ hlt] at hu
   cases hu
 ·cases hb:(a.eval x).ownBlock with
  | none=>exact .inl ⟨r3.os,r3.tape,r3.output,r3.size,fun k hk _=>r3.block k hk (by rw [hb]; simp)⟩
  | some b =>
   refine .inr ⟨_,b,ho,by simp only [obk]; rw [hv]; exact hb,⟨r3.os,r3.tape,r3.output,r3.size,fun k hk hn=>r3.block k hk (fun e=>hn (by rw [hb] at e; simpa using e))⟩⟩
 ·simp only [obk,hsv,Option.bind_some] at hb
  rcases r4 with h4 | h4
  ·exact .inr ⟨_,ho,by simp only [obk]; rw [hv]; rw [h4] at hb; exact hb⟩
  ·rw [h4] at hb; cases hb; exact .inl (Nat.le_refl _)
 ·cases he
  show (if id=id∧k=(es++news).length then some v' else g.sv id k)=none
  rw [if_neg (by omega)]
  exact hr.top id e size es ho k (by omega)

theorem x4r {x:Operand} {t e:TypeId} {id n:Nat} {e':TypeId} {size:Nat} {es:List (List V)} (ht:P.underlying t=some (.slice e)) (hx:evS f x = .row id n) (hn:n=es.length) :
  Stp P ⟨dst,.call { callee := .builtin .len,args := #[x],argTypes := #[t] },ty,pos,af,gd⟩ f ⟨false,[(id,some (some (.row e' size es)))],[],.dat (vint (es.length:Int))⟩:=
 xv fun X own g a w h hob=>by
  have h1:=h x (by simp [Op.operands,Call.operands])
  rw [hx] at h1
  obtain ⟨v,xs,q1,q2,_⟩:=hob
  subst hn
  have hv:g.sv id es.length=some (a.eval x):=h1
  rw [hv] at q1
  cases q1
  refine ⟨.int .i64 (es.length:Int),?_,rfl⟩
  rcases q2.2 with ⟨e1,e2⟩ | ⟨b,cap,cur,e1,_⟩
  ·simp [execOp,resolve,invoke,builtin,Builtin.len_,e1,e2,run_underlying ht,goInt]
  ·simp [execOp,resolve,invoke,builtin,Builtin.len_,e1,run_underlying ht,goInt]
theorem y6p {t e e':TypeId} {n n':Nat} {x ix:Operand} {id k:Nat} {es:List (List V)} (h:tyE P t=some (e,n')) (hx:evS f x = .row id n) (hi:evS f ix = .dat (vint (k:Int))) (hn:n=es.length) (hk:k < es.length) :
  Stp P ⟨dst,.indexAddr t x ix,ty,pos,af,gd⟩ f ⟨false,[(id,some (some (.row e' n' es)))],[],.rptr id n n' k 0⟩:=
 xv fun X own g a w hh hob=>by
  have h2:=hh x (by simp [Op.operands])
  have h3:=vc (hh ix (by simp [Op.operands])) hi
  rw [hx] at h2
  obtain ⟨v,xs,q1,q2,q3,q4,q5⟩:=hob
  subst hn
  have hv:g.sv id es.length=some (a.eval x):=h2
  rw [hv] at q1
  cases q1
  obtain ⟨i,d1,d2,d3⟩:=z23 h
  rcases q2.2 with ⟨e1,e2⟩ | ⟨b,cap,cur,e1,_⟩
  ·omega
  ·refine ⟨.pointer (some ⟨b,k * n'+0,none⟩),?_,b,cap,by rw [hv,e1],rfl⟩
   have e3:(⟨b,0,none⟩:Addr).add (k * n')=⟨b,k * n'+0,none⟩:=by rw [Addr.add_mid]; simp
   simp [execOp,h3,e1,Instr.indexAt,asIntOf,run_underlying d1,sizeOf,typeInfo,d2,d3,hk,e3]
theorem ql {t:TypeId} {i o:Nat} {ft:TypeId} {p:Operand} {id n size k c:Nat} (h:tyF P t i=some (o,ft)) (hp:evS f p = .rptr id n size k c):Stp P ⟨dst,.fieldAddr t p i,ty,pos,af,gd⟩ f ⟨false,[],[],.rptr id n size k (c+o)⟩:=
 ve fun X own g a w hh=>by
  have h2:=hh p (by simp [Op.operands])
  rw [hp] at h2
  obtain ⟨b,cap,h3,h4⟩:=h2
  refine ⟨.pointer (some ⟨b,k * size+c+o,none⟩),?_,b,cap,h3,by rw [Nat.add_assoc]⟩
  simp only [execOp,h4,Sem.run_bind,y25 h w b _,Result.andThen_ok,Sem.run_pure]
theorem z9l {w:World} {e:TypeId} {size n b cap j:Nat} {xs:List Value} {x:Value} (h:w.ownsRow 0 e size (.slice (some ⟨b,0,none⟩) n cap) n xs) (hx:xs[j]?=some x):w.cell? ⟨b,j,none⟩=some x:=by
 have:=h.cells (g:=b) rfl j x hx
 rw [Addr.add_mid,Nat.zero_add] at this
 exact this
theorem x4p {t e:TypeId} {n m size:Nat} {p:Operand} {id k c:Nat} {es:List (List V)} {el:List V} {u:V} (ht:tyS P t=some (false,n)) (hp:evS f p = .rptr id m size k c) (hm:m=es.length) (he:es[k]?=some el) (hu:el[c]?=some u) :
  Stp P ⟨dst,.load t p,ty,pos,af,gd⟩ f ⟨false,[(id,some (some (.row e size es)))],[],.dat u⟩:=
 xv fun X own g a w hh hob=>by
  have h2:=hh p (by simp [Op.operands])
  rw [hp] at h2
  obtain ⟨b,cap,h3,h4⟩:=h2
  obtain ⟨v,xs,q1,q2,q3,q4,q5⟩:=hob
  subst hm
  rw [h3] at q1
  cases q1
  obtain ⟨x,r1,r2,r3⟩:=q5 k c el u he hu
  exact ⟨x,by simp [execOp,h4,z9f (b:=true) ht w _ x (z9l q2 r1)],r2⟩
theorem x4o {t e:TypeId} {n m size:Nat} {p:Operand} {id k:Nat} {es:List (List V)} {el:List V} (ht:tyS P t=some (true,n)) (hp:evS f p = .rptr id m size k 0) (hm:m=es.length) (he:es[k]?=some el) (hn:size=n) :
  Stp P ⟨dst,.load t p,ty,pos,af,gd⟩ f ⟨false,[(id,some (some (.row e size es)))],[],.dat (vagg el)⟩:=
 xv fun X own g a w hh hob=>by
  have h2:=hh p (by simp [Op.operands])
  rw [hp] at h2
  obtain ⟨b,cap,h3,h4⟩:=h2
  obtain ⟨v,xs,q1,q2,q3,q4,q5⟩:=hob
  subst hm hn
  rw [h3] at q1
  cases q1
  obtain ⟨d,i,d1,d2,d3,d4⟩:=kr ht
  have hel:=q4 el (List.mem_of_getElem? he)
  have hk:=(List.getElem?_eq_some_iff.1 he).1
  have hl:((xs.drop (k * size)).take size).length=size:=by
   rw [List.length_take,List.length_drop,q2.1]
   have h1:(k+1) * size≤es.length * size:=Nat.mul_le_mul_right _ hk
   have h2:(k+1) * size=k * size+size:=Nat.succ_mul k size
   omega
  refine ⟨.agg ((xs.drop (k * size)).take size).toArray,?_,_,rfl,by rw [hl,hel],fun j u hj => ?_⟩
  ·have hrun:=run_loadAt_mid (P:=P) w b (k * size+0) t ((xs.drop (k * size)).take size) d (fun j v hv=>by
    rw [List.getElem?_take] at hv
    split at hv
    ·rw [List.getElem?_drop] at hv; exact z9l q2 hv
    ·cases hv) d1 d2 (by rw [d3,hl]; simp [d4])
   simp only [execOp,h4,Sem.run_bind,hrun,Result.andThen_ok,Sem.run_pure]
  ·have hjl:=(List.getElem?_eq_some_iff.1 hj).1
   obtain ⟨x,r1,r2,r3⟩:=q5 k j el u he hj
   exact ⟨x,by rw [List.getElem?_take,if_pos (by omega),List.getElem?_drop]; exact r1,r2,r3⟩
theorem x38 {t e:TypeId} {b0:Bool} {m size:Nat} {p x:Operand} {id k c:Nat} {es:List (List V)} {el:List V} {v:V} (ht:tyS P t=some (b0,1)) (hp:evS f p = .rptr id m size k c) (hx:evS f x = .dat v) (h1:v.one=true) (hm:m=es.length) (he:es[k]?=some el) (hc':Nat.blt c el.length=true) :
  Stp P ⟨dst,.store t p x,ty,pos,af,gd⟩ f ⟨false,[(id,some (some (.row e size es)))],[(id,some (some (.row e size (es.set k (el.set c v)))))],.any⟩:=by
 have hc:c < el.length:=by simpa [Nat.blt_eq] using hc'
 refine Qr fun X f' own g a w hr ho hh => ?_
 have h2:=hh p (by simp [Op.operands])
 have h3:=hh x (by simp [Op.operands])
 rw [hp] at h2
 rw [hx] at h3
 obtain ⟨b,cap,p1,p2⟩:=h2
 obtain ⟨u,xs,q1,q2,q3,q4,q5⟩:=hr.ob id _ ho
 subst hm
 rw [p1] at q1
 cases q1
 have hone:=v.hone h1 h3
 have hk:=(List.getElem?_eq_some_iff.1 he).1
 have hel:=q4 el (List.mem_of_getElem? he)
 have hpos:k * size+c < es.length * size:=Yx hk (by omega)
 rcases q2.2 with ⟨e1,_⟩ | ⟨b',cap',cur,e1,e2,e3,e4,e5,e6,e7⟩
 ·cases e1
 ·cases e1
  have hcur:es.length * size≤cap * size:=Nat.mul_le_mul_right _ e4
  have hst:=z9e (P:=P) ht w b (k * size+c) cur.toList e (a.eval x) (by simpa using e3) (by simp; omega) hone
  refine ⟨g,w.setCell ⟨b,k * size+c,none⟩ (a.eval x),.skip,undef,Gh.le_refl g,fun i hi=>⟨rfl,fun _=>rfl⟩,?_,.inr ⟨rfl,rfl⟩,.inr ⟨_,b,ho,by simp only [obk]; rw [p1]; rfl,(Kp.refl [b] w).set_ (.inl (by simp)) _⟩,fun b' hb => .inr ⟨_,ho,?_⟩,fun e' s' es' h k' hk' => ?_,fun M' he'=>⟨⟨.slice (some ⟨b,0,none⟩) es.length cap,xs.set (k * size+c) (a.eval x),?_,⟨?_,.inr ⟨b,cap,cur.setIfInBounds (k * size+c) (a.eval x),by simp,e2,?_,by simpa using e4,e5,by simpa using e6,?_⟩⟩,q3,fun el' hel' => ?_,fun k' c' el' u' hk' hc' => ?_⟩,trivial⟩⟩
  ·simp only [execOp,p2,Sem.run_bind,hst,Result.andThen_ok,Sem.run_pure]
  ·simp only [obk] at hb ⊢; simpa using hb
  ·cases h; exact hr.top id e size es ho k' (by simpa using hk')
  ·rw [List.length_set]; exact p1
  ·simp [q2.1]
  ·have:=Blk.set_ (show Blk w b e cur from e3) (k * size+c) (a.eval x)
   exact this
  ·rw [Array.toList_setIfInBounds,List.length_set,List.take_set,e7]
  ·rcases List.mem_or_eq_of_mem_set hel' with h | rfl
   ·exact q4 el' h
   ·simpa using hel
  ·rw [List.getElem?_set] at hk'
   by_cases hkk:k=k'
   ·subst hkk
    rw [if_pos rfl,if_pos hk] at hk'
    cases hk'
    rw [List.getElem?_set] at hc'
    by_cases hcc:c=c'
    ·subst hcc
     rw [if_pos rfl,if_pos hc] at hc'
     cases hc'
     exact ⟨a.eval x,by rw [List.getElem?_set_self (by rw [q2.1]; exact hpos)],v.keep he' h3,hone⟩
    ·rw [if_neg hcc] at hc'
     obtain ⟨y,r1,r2,r3⟩:=q5 k c' el u' he hc'
     exact ⟨y,by rw [List.getElem?_set_ne (by omega)]; exact r1,u'.keep he' r2,r3⟩
   ·rw [if_neg hkk] at hk'
    obtain ⟨y,r1,r2,r3⟩:=q5 k' c' el' u' hk' hc'
    refine ⟨y,?_,u'.keep he' r2,r3⟩
    have hc2:=(List.getElem?_eq_some_iff.1 hc').1
    have hel2:=q4 el' (List.mem_of_getElem? hk')
    rw [List.getElem?_set_ne]
    ·exact r1
    ·intro heq
     have h5:(k * size+c) / size=(k' * size+c') / size:=by rw [heq]
     rw [Nat.mul_comm k,Nat.mul_comm k',Nat.mul_add_div q3,Nat.mul_add_div q3,Nat.div_eq_of_lt (by omega),Nat.div_eq_of_lt (by omega)] at h5
     omega
end
end Go.Proofs.YtgdijjmdfcgifaaGreat
namespace Go.Proofs.YtgdijjmdfcgifaaGreat
open Go.RowKit
set_option linter.unusedVariables false

section
variable {P:Program} {f:Nat→Slot} {dst:Option Tmp} {ty:TypeId} {pos:String} {af:Array Edge} {gd:Option (Nat×Bool)}

theorem x4x {o:Oper} {s:Slot} (h:∀ (X:Ctx) (own:Own) (g:Gh) (a:Act) (w:World),(∀ b,Mof X g own b→b < w.heap.size)→(∀ x,x∈o.op.operands→RepS g w (Mof X g own) (evS f x) (a.eval x))→∃ v w',(execOp a.eval o).run P w = .ok (.value v) w'∧Kp [] w w'∧RepS g w' (Mof X g own) s v) :
  Stp P o f ⟨false,[],[],s⟩:=by
 intro X f' own g a w Q hr hd hx _ K hK
 obtain ⟨v,w',h1,h2,h3⟩:=h X own g a w hr.mlt.1 (fun x hm=>by rw [← hx x hm]; exact hr.ev x)
 unfold Oper.wp
 rw [h1]
 exact hK g v w' ((hr.grow h2).put o.dst s v hd h3)

theorem x6y (m n:Int):(if n < m then n else m)=min m n:=by
 rw [Int.min_def]; split <;> split <;> omega
theorem x63 (m n:Int):(if n > m then n else m)=max m n:=by
 rw [Int.max_def]; split <;> split <;> omega
theorem y2i {x y:Operand} {t t':TypeId} {k:IntKind} {m n:Int} (hx:evS f x = .dat (vval (.int k m))) (hy:evS f y = .dat (vval (.int k n))):Stp P ⟨dst,.call { callee := .builtin .min,args := #[x,y],argTypes := #[t,t'] },ty,pos,af,gd⟩ f ⟨false,[],[],.dat (vval (.int k (min m n)))⟩:=
 ve fun X own g a w h=>by
  have h1:=vc (h x (by simp [Op.operands,Call.operands])) hx
  have h2:=vc (h y (by simp [Op.operands,Call.operands])) hy
  refine ⟨.int k (min m n),?_,rfl⟩
  rw [← x6y]
  simp [execOp,resolve,invoke,builtin,Builtin.min_,Builtin.min2,h1,h2]
theorem x4j {x y:Operand} {t t':TypeId} {k:IntKind} {m n:Int} (hx:evS f x = .dat (vval (.int k m))) (hy:evS f y = .dat (vval (.int k n))):Stp P ⟨dst,.call { callee := .builtin .max,args := #[x,y],argTypes := #[t,t'] },ty,pos,af,gd⟩ f ⟨false,[],[],.dat (vval (.int k (max m n)))⟩:=
 ve fun X own g a w h=>by
  have h1:=vc (h x (by simp [Op.operands,Call.operands])) hx
  have h2:=vc (h y (by simp [Op.operands,Call.operands])) hy
  refine ⟨.int k (max m n),?_,rfl⟩
  rw [← x63]
  simp [execOp,resolve,invoke,builtin,Builtin.max_,Builtin.max2,h1,h2]

def byt (l:List UInt8) (k:Nat):UInt8:=l.getD k 0
theorem x4u {t:TypeId} {x ix:Operand} {l:List UInt8} {k:Nat} (ht:P.underlying t=some .string) (hx:evS f x = .dat (vstr l)) (hi:evS f ix = .dat (vint (k:Int))) (hk:k < l.length) :
  Stp P ⟨dst,.index t x ix,ty,pos,af,gd⟩ f ⟨false,[],[],.dat (vval (.int .u8 ((byt l k).toNat:Int)))⟩:=
 ve fun X own g a w h=>by
  have h1:=vc (h x (by simp [Op.operands])) hx
  have h2:=vc (h ix (by simp [Op.operands])) hi
  refine ⟨.int .u8 ((byt l k).toNat:Int),?_,rfl⟩
  have e1:(ByteArray.mk l.toArray)[k]?=some (byt l k):=by
   unfold byt
   rw [List.getD_eq_getElem?_getD,List.getElem?_eq_getElem hk]
   have:k < (ByteArray.mk l.toArray).size:=by simpa [ByteArray.size] using hk
   rw [getElem?_pos (ByteArray.mk l.toArray) k this]
   rfl
  simp [execOp,h1,h2,Instr.index,asIntOf,run_underlying ht,e1]

theorem x3x (l:List UInt8) (a b:Nat):(ByteArray.mk l.toArray).extract a b=ByteArray.mk ((l.drop a).take (b - a)).toArray:=by
 apply ByteArray.ext
 rw [ByteArray.data_extract]
 apply Array.ext'
 simp [List.take_drop]

theorem x3z {t:TypeId} {x:Operand} {lo hi:Option Operand} {l:List UInt8} {a b:Nat} (ht:P.underlying t=some .string) (hx:evS f x = .dat (vstr l))
  (hlo:match lo with | none=>a=0 | some y=>evS f y = .dat (vint (a:Int))) (hhi:match hi with | none=>b=l.length | some y=>evS f y = .dat (vint (b:Int))) (hab:a≤b) (hb:b≤l.length) :
  Stp P ⟨dst,.slice t x lo hi none,ty,pos,af,gd⟩ f ⟨false,[],[],.dat (vstr ((l.drop a).take (b - a)))⟩:=
 ve fun X own g ac w h=>by
  have h1:=vc (h x (by simp [Op.operands])) hx
  refine ⟨_,?_,rfl⟩
  have hz:(ByteArray.mk l.toArray).size=l.length:=by simp [ByteArray.size]
  have hl:(lo=none∧a=0)∨∃ y,lo=some y∧ac.eval y = .int .i64 (a:Int):=by
   cases lo with
   | none=>exact .inl ⟨rfl,hlo⟩
   | some y=>exact .inr ⟨y,rfl,vc (h y (by simp [Op.operands])) hlo⟩
  have hh:(hi=none∧b=l.length)∨∃ y,hi=some y∧ac.eval y = .int .i64 (b:Int):=by
   cases hi with
   | none=>exact .inl ⟨rfl,hhi⟩
   | some y=>exact .inr ⟨y,rfl,vc (h y (by simp [Op.operands])) hhi⟩
  have hs:=x3x l a b
  rcases hl with ⟨rfl,rfl⟩ | ⟨y,rfl,hy⟩ <;> rcases hh with ⟨rfl,rfl⟩ | ⟨y',rfl,hy'⟩
  all_goals (simp only [execOp,Instr.sliceAt,Option.map_some,Option.map_none,Sem.run_bind,run_underlying ht,Result.andThen_ok,Instr.slice,h1,Instr.sliceBounds,Instr.sliceBound,Option.isSome_none,Sem.run_pure])
  all_goals (try simp only [hy,asIntOf])
  all_goals (try simp only [hy',asIntOf])
  all_goals simp [hz,hs,hab,hb]

theorem x30 {t e:TypeId} {n:Nat} {x:Operand} {lo hi:Option Operand} {es:List (List V)} {a b:Nat} (ht:tyE P t=some (e,n)) (hx:evS f x = .dat (vlst es)) (hn:∀ el,el∈es→el.length=n)
  (hlo:match lo with | none=>a=0 | some y=>evS f y = .dat (vint (a:Int))) (hhi:match hi with | none=>b=es.length | some y=>evS f y = .dat (vint (b:Int))) (hab:a≤b) (hb:b≤es.length) :
  Stp P ⟨dst,.slice t x lo hi none,ty,pos,af,gd⟩ f ⟨false,[],[],.dat (vlst ((es.drop a).take (b - a)))⟩:=
 ve fun X own g ac w h=>by
  have h1:=h x (by simp [Op.operands])
  rw [hx] at h1
  obtain ⟨A,c,p1,p2,p3⟩:=h1
  obtain ⟨i,d1,d2,d3⟩:=z23 ht
  have hl:(lo=none∧a=0)∨∃ y,lo=some y∧ac.eval y = .int .i64 (a:Int):=by
   cases lo with
   | none=>exact .inl ⟨rfl,hlo⟩
   | some y=>exact .inr ⟨y,rfl,vc (h y (by simp [Op.operands])) hlo⟩
  have hh:(hi=none∧b=es.length)∨∃ y,hi=some y∧ac.eval y = .int .i64 (b:Int):=by
   cases hi with
   | none=>exact .inl ⟨rfl,hhi⟩
   | some y=>exact .inr ⟨y,rfl,vc (h y (by simp [Op.operands])) hhi⟩
  have hbc:b≤c:=by omega
  refine ⟨.slice (if c=a then A else A.map (·.add (a * n))) (b - a) (c - a),?_,_,c - a,by rw [show ((es.drop a).take (b - a)).length=b - a from by simp; omega],by rw [show ((es.drop a).take (b - a)).length=b - a from by simp; omega]; omega,fun hne => ?_⟩
  ·rcases hl with ⟨rfl,rfl⟩ | ⟨y,rfl,hy⟩ <;> rcases hh with ⟨rfl,rfl⟩ | ⟨y',rfl,hy'⟩
   all_goals simp_all [execOp,Instr.sliceAt,Instr.slice,Instr.sliceBounds,Instr.sliceBound,asIntOf,run_underlying d1,sizeOf,typeInfo]
  ·have hes:es≠[]:=by rintro rfl; simp at hne
   obtain ⟨b',off,size,q1,q2⟩:=p3 hes
   have hab':a < b:=by
    rcases Nat.lt_or_ge a b with h | h
    ·exact h
    ·exfalso; apply hne; have:b - a=0:=by omega
     rw [this]; simp
   have hsz:n=size:=by
    obtain ⟨_,_,_,_,_,h2,_⟩:=q2
    cases es with
    | nil=>exact absurd rfl hes
    | cons el _=>rw [← hn el (by simp),h2 el (by simp)]
   subst hsz
   subst q1
   rw [if_neg (by omega)]
   refine ⟨b',off+a * n,n,by simp [Addr.add_mid],q2.1,?_⟩
   obtain ⟨_,arr,e',fz,r1,r2,r3⟩:=q2
   refine ⟨arr,e',fz,r1,fun el hel=>r2 el (List.mem_of_mem_drop (List.mem_of_mem_take hel)),fun k c' el u hk hc => ?_⟩
   rw [List.getElem?_take] at hk
   split at hk
   ·rw [List.getElem?_drop] at hk
    obtain ⟨x',s1,s2⟩:=r3 (a+k) c' el u hk hc
    refine ⟨x',?_,s2⟩
    have:off+a * n+k * n+c'=off+(a+k) * n+c':=by rw [Nat.add_mul]; omega
    rw [this]; exact s1
   ·cases hk

/-! ### literals -/
theorem y4b:∀ (vs:List Value) (k off:Nat) (cs:Array Value),off+k+vs.length≤cs.size →
  ((vs.zipIdx k).foldl (fun cs (p:Value×Nat)=>cs.setIfInBounds (off+p.2) p.1) cs).size=cs.size∧∀ q,((vs.zipIdx k).foldl (fun cs (p:Value×Nat)=>cs.setIfInBounds (off+p.2) p.1) cs)[q]?=if off+k≤q∧q < off+k+vs.length then vs[q - (off+k)]? else cs[q]?:=by
 intro vs
 induction vs with
 | nil=>intro k off cs _; refine ⟨rfl,fun q => ?_⟩; simp only [List.zipIdx_nil,List.foldl_nil,List.length_nil,Nat.add_zero]; rw [if_neg (by omega)]
 | cons v vs ih =>
  intro k off cs h
  simp only [List.length_cons] at h
  obtain ⟨h1,h2⟩:=ih (k+1) off (cs.setIfInBounds (off+k) v) (by simp; omega)
  rw [List.zipIdx_cons,List.foldl_cons]
  refine ⟨by rw [h1]; simp,fun q => ?_⟩
  rw [h2 q]
  simp only [List.length_cons]
  by_cases hq:q=off+k
  ·subst hq
   rw [if_neg (by omega),if_pos (by omega),Nat.sub_self,Array.getElem?_setIfInBounds_self_of_lt (by omega)]
   rfl
  ·by_cases hr:off+(k+1)≤q∧q < off+(k+1)+vs.length
   ·rw [if_pos hr,if_pos (by omega)]
    have:q - (off+k)=(q - (off+(k+1)))+1:=by omega
    rw [this]; rfl
   ·rw [if_neg hr,if_neg (by omega),Array.getElem?_setIfInBounds_ne (Ne.symm hq)]

def y1n (s:Slot) (ws:List V):Prop:=(∃ u,s = .dat u∧u.one=true∧ws=[u])∨s = .dat (vagg ws)
theorem y4o {g:Gh} {w:World} {M:Blks} {s:Slot} {ws:List V} {v:Value} (h:y1n s ws) (hv:RepS g w M s v):Cs w M ws v.cells.toList:=by
 rcases h with ⟨u,rfl,h1,rfl⟩ | rfl
 ·have h2:=u.hone h1 hv
  rw [y1e h2]
  refine ⟨rfl,fun j u' hj => ?_⟩
  cases j with
  | zero=>cases hj; exact ⟨v,rfl,hv,h2⟩
  | succ j=>cases hj
 ·obtain ⟨l,rfl,h2⟩:=hv
  simpa [Value.cells] using h2
def putL (us:List V) (off:Nat) (ws:List V):List V:=us.take off++ws++us.drop (off+ws.length)
def y4q:List V→List (Nat×List V)→List V
 | us,[]=>us
 | us,(off,ws)::ps=>y4q (putL us off ws) ps
def y3b (f:Nat→Slot) (pl:Nat→Option (Nat×Nat)) (total:Nat):List (Nat×Operand)→List (Nat×List V)→Prop
 | [],[]=>True
 | (i,x)::ps,(off,ws)::pv=>pl i=some (off,ws.length)∧y1n (evS f x) ws∧Nat.ble (off+ws.length) total=true∧y3b f pl total ps pv
 | _,_=>False
theorem w0w {g:Gh} {w:World} {M:Blks} {pl:Nat→Option (Nat×Nat)} {ev:Operand→Value}:∀ (ps:List (Nat×Operand)) (pv:List (Nat×List V)) (us:List V) (cells:Array Value),y3b f pl us.length ps pv→(∀ p,p∈ps→RepS g w M (evS f p.2) (ev p.2))→Cs w M us cells.toList →
  ∃ cells',Instr.fill pl cells (ps.map fun p=>(p.1,ev p.2))=some cells'∧Cs w M (y4q us pv) cells'.toList:=by
 intro ps
 induction ps with
 | nil =>
  intro pv us cells h _ hc
  cases pv with
  | nil=>exact ⟨cells,rfl,hc⟩
  | cons _ _=>cases h
 | cons p ps ih =>
  obtain ⟨i,x⟩:=p
  intro pv us cells h hv hc
  cases pv with
  | nil=>cases h
  | cons q pv =>
   obtain ⟨off,ws⟩:=q
   obtain ⟨h1,h2,h3,h4⟩:=h
   have h3:=Nat.le_of_ble_eq_true h3
   have hx:=y4o h2 (hv (i,x) (by simp))
   have hcl:cells.size=us.length:=by simpa using hc.1
   have hxl:(ev x).cells.size=ws.length:=by simpa using hx.1
   have hus:(putL us off ws).length=us.length:=by unfold putL; simp; omega
   obtain ⟨f1,f2⟩:=y4b (ev x).cells.toList 0 off cells (by simp; omega)
   have hfold:(ev x).cells.zipIdx.foldl (fun cs (p:Value×Nat)=>cs.setIfInBounds (off+p.2) p.1) cells=((ev x).cells.toList.zipIdx 0).foldl (fun cs (p:Value×Nat)=>cs.setIfInBounds (off+p.2) p.1) cells:=by
    rw [← Array.foldl_toList,Array.toList_zipIdx]
   obtain ⟨cells',r1,r2⟩:=ih pv (putL us off ws) (((ev x).cells.toList.zipIdx 0).foldl (fun cs (p:Value×Nat)=>cs.setIfInBounds (off+p.2) p.1) cells) (by rw [hus]; exact h4) (fun p hp=>hv p (List.mem_cons_of_mem _ hp)) ⟨by simp only [Array.length_toList]; rw [f1,hus,hcl],fun j u hj=>by
    rw [Array.getElem?_toList,f2 j]
    simp only [Array.length_toList,Nat.add_zero]
    unfold putL at hj
    by_cases hr:off≤j∧j < off+(ev x).cells.size
    ·rw [if_pos hr]
     rw [List.append_assoc,List.getElem?_append_right (by simp; omega),List.getElem?_append_left (by simp; omega)] at hj
     have:j - (us.take off).length=j - off:=by simp; omega
     rw [this] at hj
     exact hx.2 _ u hj
    ·rw [if_neg hr]
     have hj':us[j]?=some u:=by
      rcases Nat.lt_or_ge j off with hl | hl
      ·rw [List.append_assoc,List.getElem?_append_left (by simp; omega),List.getElem?_take,if_pos hl] at hj
       exact hj
      ·rw [List.getElem?_append_right (by simp; omega),List.getElem?_drop] at hj
       have:off+ws.length+(j - (us.take off++ws).length)=j:=by simp; omega
       rw [this] at hj
       exact hj
     have:=hc.2 j u hj'
     simpa using this⟩
   refine ⟨cells',?_,r2⟩
   simp only [List.map_cons,Instr.fill,h1,hxl,ne_eq,not_true_eq_false,decide_false,Bool.false_or]
   rw [if_neg (by simp; omega),hfold]
   exact r1

def tyP (P:Program) (t:TypeId):Option (List (Nat×Nat)):=match P.underlying t with
 | some (.struct fs)=>fs.toList.mapM fun fl=>(P.info? fl.type).map fun j=>(fl.offset,j.size)
 | _=>none
theorem y7w {P:Program} (w:World):∀ (fs:List Field) (pls:List (Nat×Nat)),(fs.mapM fun fl=>(P.info? fl.type).map fun j=>(fl.offset,j.size))=some pls →
  (fs.mapM fun fl=>do pure (fl.offset,← sizeOf fl.type):Sem (List (Nat×Nat))).run P w = .ok pls w:=by
 intro fs
 induction fs with
 | nil=>intro pls h; simp at h; subst h; simp
 | cons fl fs ih =>
  intro pls h
  rw [List.mapM_cons] at h
  cases hj:P.info? fl.type with
  | none=>rw [hj] at h; simp at h
  | some j =>
   rw [hj] at h
   cases hr:(fs.mapM fun fl=>(P.info? fl.type).map fun j=>(fl.offset,j.size)) with
   | none=>rw [hr] at h; simp at h
   | some pls' =>
    rw [hr] at h
    simp at h
    subst h
    have hsz:(sizeOf fl.type).run P w = .ok j.size w:=by simp [sizeOf,typeInfo,hj]
    simp only [List.mapM_cons,Sem.run_bind,hsz,Result.andThen_ok,Sem.run_pure,ih pls' hr]

theorem vq {t:TypeId} {ps:Array (Nat×Operand)} {zs:List Value} {pls:List (Nat×Nat)} (pv:List (Nat×List V)) (hz:tyZ P t=some zs) (hp:tyP P t=some pls) (h1:zs.all (·.oneCell')=true) (hpv:y3b f (fun i=>pls[i]?) zs.length ps.toList pv) :
  Stp P ⟨dst,.build t ps,ty,pos,af,gd⟩ f ⟨false,[],[],.dat (vagg (y4q (zs.map vval) pv))⟩:=
 ve fun X own g a w h=>by
  unfold tyZ at hz
  cases hi:P.info? t with
  | none=>rw [hi] at hz; cases hz
  | some i =>
   rw [hi] at hz
   cases hzz:i.zero with
   | none=>simp [hzz] at hz
   | some z =>
    simp [hzz] at hz
    have e1:z.cells=zs.toArray:=by rw [← hz]
    unfold tyP at hp
    cases hu:P.underlying t with
    | none=>rw [hu] at hp; cases hp
    | some d =>
     rw [hu] at hp
     cases d <;> simp only at hp <;> try (cases hp; done)
     rename_i fs
     have hpl:=y7w (P:=P) w fs.toList pls hp
     have hCs:Cs w (Mof X g own) (zs.map vval) zs.toArray.toList:=by
      refine ⟨by simp,fun j u hj => ?_⟩
      rw [List.getElem?_map] at hj
      cases hq:zs[j]? with
      | none=>rw [hq] at hj; cases hj
      | some x=>rw [hq] at hj; cases hj; exact ⟨x,rfl,rfl,(List.all_eq_true.1 h1) x (List.mem_of_getElem? hq)⟩
     obtain ⟨cells,r1,r2⟩:=w0w (ev:=a.eval) ps.toList pv (zs.map vval) zs.toArray (by simp only [List.length_map]; exact hpv) (fun p hp=>h p.2 (by simp only [Op.operands]; simp; exact ⟨p.1,by simpa using hp⟩)) hCs
     refine ⟨.agg cells,?_,cells.toList,by simp,r2⟩
     have hm:(fs.mapM fun fl=>do pure (fl.offset,← sizeOf fl.type):Sem (Array (Nat×Nat))).run P w = .ok pls.toArray w:=by
      rw [Array.mapM_eq_mapM_toList]
      simp only [map_eq_pure_bind,Sem.run_bind,hpl,Result.andThen_ok,Sem.run_pure]
     have hmap:(ps.map fun (i,x)=>(i,a.eval x)).toList=ps.toList.map fun p=>(p.1,a.eval p.2):=by simp
     have hpls:(fun i:Nat=>pls.toArray[i]?)=fun i:Nat=>pls[i]?:=by funext i; simp
     have hzv:(zeroValue t).run P w = .ok z w:=by simp [zeroValue,typeInfo,hi,hzz]
     simp only [execOp,Instr.build,hzv,Sem.run_bind,Sem.run_pure,Result.andThen_ok,run_underlying hu,hm,e1,hmap,hpls,r1]
end
end Go.Proofs.YtgdijjmdfcgifaaGreat
