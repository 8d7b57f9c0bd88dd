/- The abstract machine: a library's function that shortens a row; results of two values; new rows of strings. No program. -/
import Derived.Test.YtnnfdgngnoamoaaGreatDoorMc
import Derived.Shelf.Vars
import Derived.Lib.SplitLaws
namespace Go.Proofs.YtnnfdgngnoamoaaGreatDoor
open Go.RowKit
set_option linter.unusedVariables false
theorem w5m {P:Program} {fn:Nat} {args:List V} {e:TypeId} (rs:List Bs) (hok:uh P fn=true)
  (h:∀ (M:Blks) (w:World) (vs:List Value),Mlt w M→Ts w M args vs→Calls P fn vs.toArray w fun r w'=>r = .returned (.slice (some ⟨w.heap.size,0,none⟩) rs.length rs.length)∧w'=w.alloc (.cells ((rs.map fun s=>Value.string ⟨s.toArray⟩)).toArray e)) (hl:rs.length≤maxLen) :
  FnG P fn (args.map .dat) [] (.row 900 rs.length) [(900,.row e 1 (rs.map fun s=>[vstr s]))]:=by
 have hk:=w5n (P:=P) (fn:=fn) (args:=args) (e:=e) (size:=1) (es:=rs.map fun s=>[vstr s]) hok (by omega) (by simp) fun M w vs hM hvs => ?_
 ·rw [List.length_map] at hk; exact hk
 ·refine (h M w vs hM hvs).mono ?_
  rintro r w' ⟨rfl,rfl⟩
  refine ⟨_,rs.map fun s=>Value.string ⟨s.toArray⟩,rfl,(Kp.refl [] w).alloc _,?_,fun M' _ k c el u hk hc => ?_⟩
  ·simp only [List.length_map]
   refine ⟨by simp,.inr ⟨w.heap.size,rs.length,_,rfl,Nat.le_refl _,heap_alloc_new w _,Nat.le_refl _,hl,by simp,?_⟩⟩
   simp only [Nat.mul_one]
   exact List.take_of_length_le (by simp)
  ·rw [List.getElem?_map] at hk
   cases hq:rs[k]? with
   | none=>rw [hq] at hk; cases hk
   | some y =>
    rw [hq] at hk
    cases hk
    rcases c with _ | c
    ·cases hc
     exact ⟨Value.string ⟨y.toArray⟩,by rw [Nat.mul_one,Nat.add_zero,List.getElem?_map,hq]; rfl,rfl,rfl⟩
    ·simp at hc
theorem w02 {w:World} {M:Blks} (h:Mlt w M):∃ m,w.cell? ⟨0,0,none⟩=some (.int .i64 m):=by
 obtain ⟨_,⟨w1,h1,_,h2⟩,_⟩:=h
 obtain ⟨m,hm⟩:=cell_of_shapedOpen_int (g:=0) (zero := #[.int .i64 0]) (t:=3) (k := .i64) (h1 (by decide)) (of_decide_eq_true (by kernel_rfl)) (by kernel_rfl) rfl (by kernel_rfl) (by kernel_rfl) (by kernel_rfl)
 refine ⟨m,?_⟩
 have h3:=(h2 0 (by decide)).2
 simp only [World.cell?] at hm ⊢
 rw [h3]; exact hm
end Go.Proofs.YtnnfdgngnoamoaaGreatDoor
