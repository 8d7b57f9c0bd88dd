/- From a contract on data to the row: a law of one argument, a slice of numbers. -/
import Derived.Test.YtgdijjmdfcgifaaGreatMc
import Derived.Test.YtgdijjmdfcgifaaGreatRows
import Derived.Below
import Derived.Shelf.Vars
namespace Go.Proofs.YtgdijjmdfcgifaaGreat
open Go.RowKit
set_option linter.unusedVariables false

abbrev ints (l:List Int):List (List V):=l.map fun n=>[vint n]
theorem x99 (l:List Int):∀ el,el∈ints l→el.length=1:=by
 intro el h; obtain ⟨p,_,rfl⟩:=List.mem_map.1 h; rfl
structure ArgL (L:List Int):Prop where
 len:L.length≤9223372036854775807
 rng:∀ n,n∈L→-9223372036854775808≤n∧n≤9223372036854775807

theorem w1q {n:Int} (h:(Lit.int .i64 n).wf=true):-9223372036854775808≤n∧n≤9223372036854775807:=by
 simp [Lit.wf,IntKind.min,IntKind.max,IntKind.bits,IntKind.signed] at h
 omega
theorem w2c {w:World} {A:Option Addr} {n cap:Nat} {zs:List Int} (h:(A=none∧n=0∧cap=0∧zs=[]) ∨
  ∃ x,A=some x∧n≤cap∧cap≤maxLen∧zs.length=cap∧(∀ i,i < zs.length→w.cell? (x.add i)=some (.int .i64 (zs.getD i 0)))∧∀ m∈zs,(Lit.int .i64 m).wf=true) :
  ∃ L,ArgL L∧(vlst (ints L)).p w (fun _=>False) (.slice A n cap):=by
 rcases h with ⟨rfl,rfl,rfl,_⟩ | ⟨x,rfl,hl,hm,hz,hc,hw⟩
 ·exact ⟨[],⟨by simp,by simp⟩,none,0,rfl,Nat.le_refl _,fun h=>absurd rfl h⟩
 ·have hrng:∀ z,z∈zs→-9223372036854775808≤z∧z≤9223372036854775807:=fun z hz=>w1q (hw z hz)
  have hlen:(ints (zs.take n)).length=n:=by simp; omega
  refine ⟨zs.take n,⟨by rw [List.length_take]; unfold maxLen at hm; omega,fun z hz=>hrng z (List.mem_of_mem_take hz)⟩,some x,cap,by rw [hlen],by rw [hlen]; exact hl,fun hne => ?_⟩
  have h0:0 < n:=by
   rcases Nat.eq_zero_or_pos n with h0 | h0
   ·subst h0; simp at hne
   ·exact h0
  have c0:=hc 0 (by omega)
  obtain ⟨b,off,spot⟩:=x
  have hspot:spot=none:=by simpa [Addr.add] using World.cell?_spot c0
  subst hspot
  have hblk:∃ cs e fz,w.heap[b]?=some (.cells cs e fz):=by
   simp only [Addr.add,if_true,World.cell?] at c0
   split at c0
   ·rename_i cs e fz hh; exact ⟨cs,e,fz,hh⟩
   ·cases c0
  obtain ⟨cs,e,fz,hb⟩:=hblk
  refine ⟨b,off,1,rfl,fun h=>h,cs,e,fz,hb,x99 _,fun k c el u hk hu => ?_⟩
  rw [List.getElem?_map] at hk
  cases hq:(zs.take n)[k]? with
  | none=>rw [hq] at hk; cases hk
  | some z =>
   rw [hq] at hk
   cases hk
   have hk2:k < zs.length∧zs[k]?=some z:=by
    rw [List.getElem?_take] at hq
    split at hq
    ·obtain ⟨hh,_⟩:=List.getElem?_eq_some_iff.1 hq
     exact ⟨hh,hq⟩
    ·cases hq
   have hc':=hc k hk2.1
   have hcz:zs.getD k 0=z:=by rw [List.getD_eq_getElem?_getD,hk2.2]; rfl
   rw [hcz] at hc'
   have hcs:c=0:=by
    cases c with
    | zero=>rfl
    | succ c=>simp at hu
   subst hcs
   have hu':u=vint z:=by simpa using hu.symm
   subst hu'
   refine ⟨.int .i64 z,?_,rfl,rfl⟩
   have e1:(⟨b,off,none⟩:Addr).add k=⟨b,off+k,none⟩:=by
    unfold Addr.add
    by_cases hj0:k=0
    ·subst hj0; rfl
    ·rw [if_neg hj0]
   rw [e1,cell_of_row w b (off+k) cs e fz hb] at hc'
   simpa using hc'
theorem w0j {w:World} (h:w.ShapedOpen Tryz.prog) (hP:GlP w):Gl w:=by
 refine ⟨w,fun _=>h,hP,fun b hb=>⟨?_,rfl⟩⟩
 simp only [glL,List.mem_singleton] at hb
 subst hb
 obtain ⟨m,hm⟩:=cell_of_shapedOpen_int (g:=0) (zero := #[.int .i64 0]) (t:=3) (k := .i64) h (of_decide_eq_true (by kernel_rfl)) (by kernel_rfl) rfl (by kernel_rfl) (by kernel_rfl) (by kernel_rfl)
 rcases Nat.lt_or_ge 0 w.heap.size with hlt | hge
 ·exact hlt
 ·simp [World.cell?,Array.getElem?_eq_none hge] at hm
theorem x7f {f:Nat} (hF:∀ L,ArgL L→Fn Tryz.prog f [vlst (ints L)] (zu [zn true])) (A:Option Addr) (n cap:Nat) (zs:List Int) (w:World) (h:(A=none∧n=0∧cap=0∧zs=[]) ∨
  ∃ x,A=some x∧n≤cap∧cap≤maxLen∧zs.length=cap∧(∀ i,i < zs.length→w.cell? (x.add i)=some (.int .i64 (zs.getD i 0)))∧∀ m∈zs,(Lit.int .i64 m).wf=true) (hG:Gl w) :
  Calls Tryz.prog f #[.slice A n cap] w fun e w'=>e = .returned (.bool true)∧Below w.heap.size w w':=by
 obtain ⟨L,hL,hp⟩:=w2c h
 refine ((hF L hL).2 (fun _=>False) w #[.slice A n cap] ⟨fun _ h=>h.elim,hG,fun _ _ h=>h⟩ ⟨rfl,fun j u hj => ?_⟩).mono ?_
 ·cases j with
  | zero=>simp at hj; subst hj; exact ⟨_,rfl,hp⟩
  | succ j=>simp at hj
 ·rintro e w' ⟨v,rfl,h1,h2⟩
  have h1:v = .bool true:=h1
  subst h1
  exact ⟨rfl,h2.to_below⟩
end Go.Proofs.YtgdijjmdfcgifaaGreat
