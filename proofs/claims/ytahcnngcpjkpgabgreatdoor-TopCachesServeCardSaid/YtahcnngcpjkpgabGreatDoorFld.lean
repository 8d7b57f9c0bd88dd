/- strings.Fields and strings.FieldsFunc at plain signs: what they give, and their contracts' common parts. -/
import Derived.Test.YtahcnngcpjkpgabGreatDoorLibK
import Derived.Lib.Fields
import Derived.Lib.Space
import Derived.Shelf.Strings.FieldsFuncGrows
namespace Go.Proofs.YtahcnngcpjkpgabGreatDoor
open Go.RowKit Go.Shelf
set_option linter.unusedVariables false
def ffGo (p:UInt8→Bool):Bs→Bs→List Bs
 | cur,[]=>if cur.isEmpty then [] else [cur]
 | cur,c::l=>if p c then (if cur.isEmpty then ffGo p [] l else cur::ffGo p [] l) else ffGo p (cur++[c]) l
def x44 (s:Bs):Option (List Bs):=if ascB s=true∧s.length≤1000000000 then some (Lib.fields s) else none
open Classical in
noncomputable def z5d (s:Bs) (p:Int→Option Bool):Option (List Bs):=if ascB s=true∧s.length≤1000000000∧∀ c:Int,(p c).isSome=true then some (ffGo (fun c=>(p (c.toNat:Int)).getD false) [] s) else none
theorem w94 {s:Bs} {p:Int→Option Bool} {r:List Bs} (h:z5d s p=some r):ascB s=true∧s.length≤1000000000∧(∀ c:Int,(p c).isSome=true)∧r=ffGo (fun c=>(p (c.toNat:Int)).getD false) [] s:=by
 unfold z5d at h
 split at h
 ·rename_i h1; cases h; exact ⟨h1.1,h1.2.1,h1.2.2,rfl⟩
 ·cases h
theorem y98 (p:UInt8→Bool):∀ (l cur:Bs),(ffGo p cur l).length≤l.length+(if cur.isEmpty then 0 else 1)
 | [],cur=>by cases cur <;> simp [ffGo]
 | c::l,cur=>by
  simp only [ffGo]
  have h1:=y98 p l []
  have h2:=y98 p l (cur++[c])
  cases p c
  ·simp only [Bool.false_eq_true,if_false,List.length_cons]
   have:(cur++[c]).isEmpty=false:=by cases cur <;> rfl
   rw [this] at h2
   simp only [Bool.false_eq_true,if_false] at h2
   split <;> omega
  ·simp only [if_true]
   cases cur with
   | nil=>simp only [List.isEmpty_nil,if_true,List.length_cons] at h1 ⊢; omega
   | cons a t=>simp only [List.isEmpty_nil,List.isEmpty_cons,if_true,Bool.false_eq_true,if_false,List.length_cons] at h1 ⊢; omega
theorem w93 (q:Nat→Bool) (p:UInt8→Bool) (s:ByteArray) (hp:∀ c:UInt8,c.toNat < 128→q c.toNat=p c) (ha:∀ b,b∈s.data.toList→b.toNat < 128):∀ (f pos:Nat) (st:Option Nat) (acc:List (Nat×Nat)),s.size≤pos+f→pos≤s.size→(∀ a,st=some a→a < pos) →
  ((Lib.closeSpans s (Lib.spansFromP q s f pos st acc)).map fun x=>(s.extract x.1 x.2).data.toList)=(acc.map fun x=>(s.extract x.1 x.2).data.toList)++ffGo p (match st with | none=>[] | some a=>(s.data.toList.drop a).take (pos - a)) (s.data.toList.drop pos):=by
 have hsz:s.size=s.data.toList.length:=by rw [Array.length_toList]; rfl
 have hex:∀ a b,(s.extract a b).data.toList=(s.data.toList.drop a).take (b - a):=fun a b=>by rw [Lib.extract_data]
 have hend:∀ (pos:Nat) (st:Option Nat) (acc:List (Nat×Nat)),s.size≤pos→pos≤s.size→(∀ a,st=some a→a < pos)→((Lib.closeSpans s (acc,st)).map fun x=>(s.extract x.1 x.2).data.toList)=(acc.map fun x=>(s.extract x.1 x.2).data.toList)++ffGo p (match st with | none=>[] | some a=>(s.data.toList.drop a).take (pos - a)) (s.data.toList.drop pos):=by
  intro pos st acc h1 h2 h3
  obtain rfl:pos=s.size:=by omega
  rw [List.drop_of_length_le (show s.data.toList.length≤s.size by omega)]
  cases st with
  | none=>simp [Lib.closeSpans,ffGo]
  | some a =>
   have hlt:=h3 a rfl
   simp only [Lib.closeSpans,List.map_append,List.map_cons,List.map_nil,ffGo]
   rw [hex]
   have hne:((s.data.toList.drop a).take (s.size - a)).isEmpty=false:=by
    rw [List.isEmpty_eq_false_iff]
    intro e
    have:=congrArg List.length e
    simp at this
    omega
   rw [hne]; rfl
 intro f
 induction f with
 | zero=>intro pos st acc h1 h2 h3; exact hend pos st acc (by omega) h2 h3
 | succ f ih =>
  intro pos st acc h1 h2 h3
  by_cases hlt:pos < s.size
  ·have hb:s[pos]∈s.data.toList:=by
    have:s[pos]=s.data.toList[pos]'(by omega):=by rw [Array.getElem_toList]; rfl
    rw [this]; exact List.getElem_mem _
   have h128:=ha _ hb
   have hd:=decode_ascii s pos hlt h128
   have hdr:s.data.toList.drop pos=s[pos]::s.data.toList.drop (pos+1):=by
    rw [List.drop_eq_getElem_cons (by omega)]
    congr 1
   unfold Lib.spansFromP
   rw [if_pos hlt,hd]
   simp only
   rw [hp _ h128,hdr]
   cases hc:p s[pos]
   ·simp only [Bool.false_eq_true,if_false]
    cases st with
    | none =>
     simp only
     rw [ih (pos+1) (some pos) acc (by omega) (by omega) (fun a h=>by cases h; omega)]
     simp only [ffGo,hc,Bool.false_eq_true,if_false]
     congr 2
     rw [hdr,show pos+1 - pos=1 by omega]; rfl
    | some a =>
     have hap:=h3 a rfl
     simp only
     rw [ih (pos+1) (some a) acc (by omega) (by omega) (fun b h=>by cases h; omega)]
     simp only [ffGo,hc,Bool.false_eq_true,if_false]
     congr 2
     have e1:pos+1 - a=(pos - a)+1:=by omega
     have e2:(s.data.toList.drop a)[pos - a]?=some s[pos]:=by
      rw [List.getElem?_drop,show a+(pos - a)=pos by omega,List.getElem?_eq_getElem (by omega)]
      congr 1
     rw [e1,List.take_add_one,e2]; rfl
   ·simp only [if_true]
    cases st with
    | none =>
     simp only
     rw [ih (pos+1) none acc (by omega) (by omega) (fun a h=>by cases h)]
     simp only [ffGo,hc,if_true,List.isEmpty_nil]
    | some a =>
     have hap:=h3 a rfl
     simp only
     rw [ih (pos+1) none (acc++[(a,pos)]) (by omega) (by omega) (fun a h=>by cases h)]
     have hne:((s.data.toList.drop a).take (pos - a)).isEmpty=false:=by
      rw [List.isEmpty_eq_false_iff]
      intro e
      have:=congrArg List.length e
      simp at this
      omega
     simp only [ffGo,hc,if_true,hne,Bool.false_eq_true,if_false,List.map_append,List.map_cons,List.map_nil,hex,List.append_assoc,List.singleton_append]
  ·unfold Lib.spansFromP
   rw [if_neg hlt]
   exact hend pos st acc (by omega) h2 h3
theorem w95 (q:Nat→Bool) (p:UInt8→Bool) (s:Bs) (hp:∀ c:UInt8,c.toNat < 128→q c.toNat=p c) (ha:ascB s=true):(Lib.goFieldsP q ⟨s.toArray⟩).map Value.string=(ffGo p [] s).map fun x=>Value.string ⟨x.toArray⟩:=by
 have h:=w93 q p ⟨s.toArray⟩ hp (fun b hb=>by
  have hb':b∈s:=by simpa using hb
  have:=List.all_eq_true.1 ha b hb'
  simpa using this) (ByteArray.mk s.toArray).size 0 none [] (by omega) (by omega) (fun a h=>by cases h)
 simp only [List.map_nil,List.nil_append,List.drop_zero] at h
 have e:∀ y:ByteArray,Value.string y=Value.string ⟨(y.data.toList).toArray⟩:=fun y=>by simp
 unfold Lib.goFieldsP Lib.spansOfP
 rw [List.map_map]
 have h2:(Lib.closeSpans ⟨s.toArray⟩ (Lib.spansFromP q ⟨s.toArray⟩ (ByteArray.mk s.toArray).size 0 none [])).map (Value.string ∘ fun x=>(ByteArray.mk s.toArray).extract x.1 x.2)=((Lib.closeSpans ⟨s.toArray⟩ (Lib.spansFromP q ⟨s.toArray⟩ (ByteArray.mk s.toArray).size 0 none [])).map fun x=>((ByteArray.mk s.toArray).extract x.1 x.2).data.toList).map fun x=>Value.string ⟨x.toArray⟩:=by
  rw [List.map_map]
  exact List.map_congr_left fun x _=>e _
 rw [h2,h]
theorem w5v {w w':World} (h:Below w.heap.size w w'):Kp [] w w':=⟨h.os,h.tape,h.output,h.size,fun k hk _=>h.block k hk⟩
theorem v1l {w w':World} (h:Kp [] w w'):Below w.heap.size w w':=⟨h.os,h.tape,h.output,h.size,fun k hk=>h.block k hk (by simp)⟩
theorem v0a {w W:World} {M:Blks} (hM:Mlt w M) (h:Below w.heap.size w W):Ext M M w W:=⟨h.size,fun b hb _ _=>h.block b hb,fun b _ hb=>hb⟩
theorem w45 {w W:World} {M:Blks} (hM:Mlt w M) (h:Below w.heap.size w W):Mlt W M:=⟨fun b hb=>Nat.lt_of_lt_of_le (hM.1 b hb) h.size,(by
 obtain ⟨w1,h1,h2,h3⟩:=hM.2.1
 exact ⟨w1,h1,h2,fun b hb=>⟨Nat.lt_of_lt_of_le (h3 b hb).1 h.size,(h.block b (h3 b hb).1).trans (h3 b hb).2⟩⟩),hM.2.2⟩
theorem w0y (w:World) (M:Blks) (v:Value):Ts w M [vval v] [v]:=⟨rfl,fun j u hj=>by
 cases j with
 | zero=>simp at hj; subst hj; exact ⟨v,rfl,rfl⟩
 | succ j=>simp at hj⟩
theorem v0d {P : Program} {fn : Nat} (hc : kx P fn = true) : ∀ args w, (callFunc fn args).run P w = .ok (.enter fn args) w := by
  intro args w
  unfold kx at hc
  cases hf : P.funcs[fn]? with
  | none => rw [hf] at hc; cases hc
  | some fc =>
    rw [hf] at hc
    simp only [Bool.and_eq_true, Bool.not_eq_true'] at hc
    have h1 : ¬ fc.name = "runtime.NumGoroutine" := by simpa using hc.1
    have h2 : ¬ fc.body = none := by
      intro hb; rw [hb] at hc; cases hc.2
    simp [callFunc, hf, h1, h2]
theorem w88 {P:Program} {fv:Nat} {us:List V} {lb:List Value} {p:Int→Option Bool} (hF:∀ a r,p a=some r→Fn P fv ([vval (.int .i32 a)]++us) (zr [zi r])) (hT:∀ c:Int,(p c).isSome=true) {M:Blks} {w:World} (hM:Mlt w M) (hl:Ts w M us lb) :
  PredGrows P fv lb.toArray (fun n=>(p (n:Int)).getD false) w:=fun W x hx hb=>by
 obtain ⟨r,hr⟩:=Option.isSome_iff_exists.1 (hT (x:Int))
 have hf:=(hF _ _ hr).2 M W (#[encR x]++lb.toArray) (w45 hM hb) (by
  have:=x9j (w0y W M (.int .i32 (x:Int))) (hl.keep (v0a hM hb))
  simpa [encR] using this)
 refine hf.mono ?_
 rintro e w' ⟨v,rfl,hv,hk⟩
 refine ⟨?_,v1l hk⟩
 have:v = .bool r:=hv
 rw [this]
 show Ending.returned (Value.bool r)=Ending.returned (Value.bool ((p (x:Int)).getD false))
 rw [hr]; rfl
end Go.Proofs.YtahcnngcpjkpgabGreatDoor
