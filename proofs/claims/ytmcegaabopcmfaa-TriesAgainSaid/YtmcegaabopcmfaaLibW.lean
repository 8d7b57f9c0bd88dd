/- The library's functions at this program, by the kit's shelf. -/
import Derived.Test.YtmcegaabopcmfaaLibM
import Derived.Test.YtmcegaabopcmfaaAbsZ
import Derived.Test.YtmcegaabopcmfaaShelf
namespace Go.Proofs.Ytmcegaabopcmfaa
open Go.RowKit
theorem k_strings_IndexByte (l : Bs) (c r : Int) (H : m_strings_IndexByte l c = some r) : Fn Try.prog 144 [vstr l, vval (.int .u8 c)] (resOf [vint r]) := by
  cases H
  refine fn_of_calls (by kernel_rfl) fun M w vs h => ?_
  have h1 := Ts_vals (us := [.string ⟨l.toArray⟩, .int .u8 c]) h
  subst h1
  refine (Try.strings_IndexByte ⟨l.toArray⟩ c w).mono ?_
  rintro e w' ⟨rfl, rfl⟩
  exact ⟨_, rfl, rfl, Kp.refl _ _⟩
theorem k_strings_Compare (a b : Bs) (r : Int) (H : m_strings_Compare a b = some r) : Fn Try.prog 126 [vstr a, vstr b] (resOf [vint r]) := by
  cases H
  refine fn_of_calls (by kernel_rfl) fun M w vs h => ?_
  have h1 := Ts_vals (us := [.string ⟨a.toArray⟩, .string ⟨b.toArray⟩]) h
  subst h1
  refine (Try.strings_Compare ⟨a.toArray⟩ ⟨b.toArray⟩ w).mono ?_
  rintro e w' ⟨rfl, rfl⟩
  exact ⟨_, rfl, rfl, Kp.refl _ _⟩
end Go.Proofs.Ytmcegaabopcmfaa
