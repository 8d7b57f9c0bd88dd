import Derived.Test.YtbpedjpoikmbjaaGreatDoorCards
import Derived.Test.YtbpedjpoikmbjaaGreatDoorTie
import Derived.Test.YtbpedjpoikmbjaaGreatDoorXktw
import Derived.Test.YtbpedjpoikmbjaaGreatDoorLj
import Derived.WalkKit
import Derived.ProofKit
import Derived.OpenShut
import Derived.ShutString
import Derived.ChangeOld
import Derived.Below
import Derived.LaidMore
import Derived.Lay
import Derived.SevenTiedAt
import Derived.Stop.Joined
namespace Go.Proofs.YtbpedjpoikmbjaaGreatDoor.accountsKept
open Go.ChangeShapes Go.WideShapes Go.ChangeAt Go.RowKit
open Go.ChangeMaps (open_string shut_string)
set_option linter.unusedVariables false

theorem own : ownKnob Tryz.prog.godebug = none:=by kernel_rfl
theorem w3q : laidOutB Tryz.prog = true:=by kernel_rfl

def x8f (k : IntKind) (w : World) (a : Option Addr) (len cap : Nat) (zs : List Int) : Prop :=
  (a = none/\len = 0/\cap = 0/\zs = []) ∨
  ∃ x,a = some x/\len<=cap/\cap<=maxLen/\zs.length = cap/\(∀ i,i < zs.length->w.cell? (x.add i) = some (.int k (zs.getD i 0))) /\ ∀ n ∈ zs,(Lit.int k n).wf = true

theorem walk (a0 : Option Addr) (len0 cap0 : Nat) (z0 : List Int) (w : World) (w0 : x8f .i64 w a0 len0 cap0 z0) (hG : Gl w) :
    Calls Tryz.prog 3 #[.slice a0 len0 cap0] w λe w'=>e = .returned (.bool true)/\Below w.heap.size w w' := by
  exact w3n (λL hL=>law_AccountsKept L hL) _ _ _ _ _ w0 hG

set_option maxRecDepth 100000 in
theorem w3m (os : Os) (started : os.Started) (H : Type) (enc : TypeId × Value → H) :
    ReturnsInHanded {} Tryz.checked os 3 .any (λw args=>(Rows.accountsKeptSpec.pre enc Tryz.prog Tryz.f3 Rows.accountsKeptRow.domain false w args/\laidMetH Tryz.prog Rows.accountsKeptRow.laid w)/\sizedMet enc Tryz.prog Tryz.f3 (OpenSpec.ofChange Rows.accountsKeptSpec) false w args) (Rows.accountsKeptSpec.post enc Tryz.prog Tryz.f3 false true false false) := by
  refine w10 (C:=Tryz.checked) (X:=λw _=>laidMetH Tryz.prog Rows.accountsKeptRow.laid w) (λ_ _ _ hh h=>h.of_heap hh) own started (by kernel_rfl) Tryz.func3
    (ChangeSpec.witness_shaped (enc:=enc) (C:=Tryz.checked) (os:=os) (X:=λw _=>laidMetH Tryz.prog Rows.accountsKeptRow.laid w) false (World.laidAll Tryz.prog os Rows.accountsKeptRow.laid) #[.slice none 0 0] 8 (World.laidAll_os _ _ _)
      (World.shaped_of_ZipB (by kernel_rfl) (by kernel_rfl)) (by kernel_rfl) (by kernel_rfl) (by kernel_rfl)
      (by rw [MakeChecks.laidMetH_plain _ _ _ (by kernel_rfl)];exact laidMet_laidAll _ (by kernel_rfl) (by kernel_rfl))) ?_
  intro W base args ds gs before hval0 hW hcnd hL hsh;have hval : ∀ (j : Nat) t v,Tryz.f3.params[j]? = some t->args[j]? = some v->Value.okWide Tryz.prog W .any base t v:=hval0;have hW' := hW;obtain⟨p,q,hA0,hV,rfl,hfz,hnd⟩ := hW;have hA : DataW.TrodAll enc Tryz.prog W 0 (λ_=>true) true Tryz.f3.params.toList args.toList ds p:=hA0;rw [Tryz.params3] at hA hval;obtain⟨v0,vs0,d0,ds0,p0,q0,hargs,rfl,rfl,h0,r0⟩ := trodAll_cons hA;obtain⟨rfl,rfl,rfl⟩ := trodAll_nil r0;obtain rfl : args = #[v0] := by cases args;simp_all
  obtain⟨rfl,rfl⟩ := trodVars_none hV;obtain⟨a0,len0,cap0,rfl⟩ := okWide_slice Tryz.underlying22 (hval 0 22 v0 rfl rfl);have k0:=h0;have lt0 : ∀ x ∈ p0,x.block < W.heap.size:=by obtain⟨m,hm⟩ := k0;exact DataW.trod_lt m _ _ _ hm
  obtain⟨z0,w0⟩ : ∃ zs,x8f .i64 W a0 len0 cap0 zs:=by
    obtain⟨fuel,hf⟩ := h0;rcases open_ints Tryz.underlying22 Tryz.underlying3 (by kernel_rfl) hf with ⟨hcs,_⟩|⟨x,l,c,zs,hcs,_,hl,hm,hz,_,hcell,hwz⟩
    · simp [Value.cells] at hcs;obtain⟨rfl,rfl,rfl⟩ := hcs;exact⟨[],.inl ⟨rfl,rfl,rfl,rfl⟩⟩
    · simp [Value.cells] at hcs;obtain⟨rfl,rfl,rfl⟩ := hcs;exact⟨zs,.inr ⟨_,rfl,hl,hm,by simpa using hz,hcell,hwz⟩⟩
  clear hA0 hval0;refine (walk a0 len0 cap0 z0 W w0 (w67 hsh trivial)).mono λe W' ⟨he,bel⟩=>?_;subst he;exact⟨_,rfl,_,_,_,[],_,[],hW',trodAll_mk1 (shut_bool Tryz.underlying4 _),(trodAll_cons_mk (Below.trod w3q (by kernel_rfl) (of_decide_eq_true (by kernel_rfl)) k0 bel lt0) trodAll_mk0),rfl,bel.frame _,λh=>by cases h⟩

theorem andT {a b : Bool} (h1 : a = true) (h2 : b = true) : (a && b) = true:=by rw [h1,h2];rfl
set_option maxHeartbeats 8000000 in
theorem closed : joinedFacts Tryz.pinned.checked.prog 3 Tryz.f3 Rows.accountsKeptSpec Rows.accountsKeptRow = true:=by
  unfold joinedFacts
  repeat' (with_reducible apply andT)
  all_goals as_aux_lemma=>kernel_rfl

theorem over : Rows.accountsKeptRow.holds Tryz.pinned (OpenSpec.ofChange Rows.accountsKeptSpec) :=
  OpenClaim.holds_of_wide 3 Tryz.f3 rfl rfl rfl rfl rfl rfl rfl ⟨rfl,rfl,rfl,rfl,rfl⟩ rfl rfl rfl rfl rfl (by kernel_rfl) Tryz.func3 closed
    (of_decide_eq_true (by kernel_rfl)) (by unfold Func.isWrapper;first|(rw [if_pos (by decide +kernel)];kernel_rfl)|(rw [if_neg (by decide +kernel)];exact⟨rfl,rfl⟩))
    (λos started H enc _=>w3m os started H enc)

end Go.Proofs.YtbpedjpoikmbjaaGreatDoor.accountsKept
