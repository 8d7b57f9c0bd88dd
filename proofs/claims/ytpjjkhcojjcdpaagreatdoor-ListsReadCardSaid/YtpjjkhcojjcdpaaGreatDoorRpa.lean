/- sync.Once's Do for strings.Replacer: the function is called once, by its contract. -/
import Derived.Test.YtpjjkhcojjcdpaaGreatDoorOnc
namespace Go.Proofs.YtpjjkhcojjcdpaaGreatDoor
open Go.RowKit Go.Lib
set_option linter.unusedVariables false
set_option maxRecDepth 100000
set_option maxHeartbeats 4000000
theorem y3q (b:Nat) (w:World) (Q:World→Prop)
  (h0:w.cell? ⟨b,0,none⟩=some (.int .u32 0)) (h1:w.cell? ⟨b,1,none⟩=some (.int .i32 0))
  (f0:w.frozen? ⟨b,0,none⟩=false) (f1:w.frozen? ⟨b,1,none⟩=false)
  (hF:Calls Tryz.prog 88 #[.pointer (some ⟨b,0,none⟩)] (w.setCell ⟨b,1,none⟩ (.int .i32 1)) fun e w2=>e = .returned (.tuple #[])∧Q w2)
  (hQ:∀ w2,Q w2→w2.cell? ⟨b,0,none⟩=some (.int .u32 0)∧w2.cell? ⟨b,1,none⟩=some (.int .i32 1)∧w2.frozen? ⟨b,0,none⟩=false∧w2.frozen? ⟨b,1,none⟩=false) :
  Calls Tryz.prog 115 #[.pointer (some ⟨b,0,none⟩),.func (.func 88) #[.pointer (some ⟨b,0,none⟩)] #[]] w fun e w'=>e = .returned (.tuple #[]) ∧
   ∃ w2,Q w2∧w'=(w2.drew.setCell ⟨b,0,none⟩ (.int .u32 1)).setCell ⟨b,1,none⟩ (.int .i32 0):=by
 have hl:=run_call_load (P:=Tryz.prog) Tryz.func138 (by kernel_rfl) (by kernel_rfl) (by kernel_rfl) .u32 (by kernel_rfl) (w:=w.setCell ⟨b,1,none⟩ (.int .i32 1)) (a:=⟨b,0,none⟩) (x:=0) ((World.cell?_setCell_other _ ⟨b,1,none⟩ ⟨b,0,none⟩ _ (by simp)).trans h0)
 have hnot:∀ (x:Bool) (w:World),(Op.unary .not (.bool x)).run Tryz.prog w = .ok (.bool (!x)) w:=fun _ _=>rfl
 go_enter_defers Tryz.func115,Tryz.ntmps115
 go_wp2_with (first | (go_at_call 139; refine (y5c ⟨b,1,none⟩ _ (by go_simp) (by go_simp)).mono ?_; rintro e w' ⟨rfl,rfl⟩) | (go_at_call 88; refine hF.mono ?_; rintro e w2 ⟨rfl,hq⟩) | (go_at_call 114; go_in))
 obtain ⟨q0,q1,q2,q3⟩:=hQ w2 hq
 refine leaves_cons (f:=141) (args := #[.pointer (some ⟨b,0,none⟩),.bool true]) (by simp) (by simp [go_sem]) ?_
 refine (y3l ⟨b,0,none⟩ (.int .u32 0) .returning _ q0 q2).mono ?_
 rintro e u' w'' ⟨rfl,rfl,rfl⟩
 refine leaves_cons (f:=140) (args := #[.pointer (some ⟨b,1,none⟩)]) (by simp [settle]) (by simp [go_sem]) ?_
 refine (y12 ⟨b,1,none⟩ _ _ ?_ (by simp [q3])).mono ?_
 ·refine (World.cell?_setCell_other _ ⟨b,0,none⟩ ⟨b,1,none⟩ _ (by simp)).trans ?_
  rw [World.cell?_drew]
  exact q1
 rintro e u' w'' ⟨rfl,rfl,rfl⟩
 simp only [Leaves,settle,results,Tryz.results115]
 simp
 exact ⟨w2,hq,rfl⟩
theorem y8a (b:Nat) (w:World) (Q:World→Prop)
  (h0:w.cell? ⟨b,0,none⟩=some (.int .u32 0)) (h1:w.cell? ⟨b,1,none⟩=some (.int .i32 0))
  (f0:w.frozen? ⟨b,0,none⟩=false) (f1:w.frozen? ⟨b,1,none⟩=false)
  (hF:Calls Tryz.prog 88 #[.pointer (some ⟨b,0,none⟩)] (w.setCell ⟨b,1,none⟩ (.int .i32 1)) fun e w2=>e = .returned (.tuple #[])∧Q w2)
  (hQ:∀ w2,Q w2→w2.cell? ⟨b,0,none⟩=some (.int .u32 0)∧w2.cell? ⟨b,1,none⟩=some (.int .i32 1)∧w2.frozen? ⟨b,0,none⟩=false∧w2.frozen? ⟨b,1,none⟩=false) :
  Calls Tryz.prog 87 #[.pointer (some ⟨b,0,none⟩),.func (.func 88) #[.pointer (some ⟨b,0,none⟩)] #[]] w fun e w'=>e = .returned (.tuple #[]) ∧
   ∃ w2,Q w2∧w'=(w2.drew.setCell ⟨b,0,none⟩ (.int .u32 1)).setCell ⟨b,1,none⟩ (.int .i32 0):=by
 have hl:=run_call_load (P:=Tryz.prog) Tryz.func138 (by kernel_rfl) (by kernel_rfl) (by kernel_rfl) .u32 (by kernel_rfl) h0
 have hnot:∀ (x:Bool) (w:World),(Op.unary .not (.bool x)).run Tryz.prog w = .ok (.bool (!x)) w:=fun _ _=>rfl
 go_enter Tryz.func87,Tryz.ntmps87
 go_wp2_with (first | (go_at_call 115; refine (y3q b _ Q h0 h1 f0 f1 hF hQ).mono ?_; rintro e w' ⟨rfl,hw⟩) | (go_at_call 114; go_in))
 go_end0
 exact ⟨rfl,hw⟩
end Go.Proofs.YtpjjkhcojjcdpaaGreatDoor
