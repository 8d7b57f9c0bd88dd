/- Plain: a text with one sign changed. -/
import Derived.Test.YtihjlkocfeoelaaGreatDoorKeZe
namespace Go.Proofs.YtihjlkocfeoelaaGreatDoor
set_option linter.unusedVariables false
set_option maxRecDepth 20000
theorem x51 (c:UInt8):(encL (IntKind.wrap .i32 (c.toNat:Int))).length≤4:=by
 have:=y36 (fun c=>decide ((encL (IntKind.wrap .i32 (c.toNat:Int))).length≤4)) (by decide +kernel) c
 exact of_decide_eq_true this
theorem y38 (l:Bs) (a b:Int) (h:0≤a∧a≤b∧b≤(l.length:Int)):Ok (sub? l a b) fun r=>r.length≤l.length:=by
 unfold sub?
 rw [if_pos h]
 exact z2x (by simp; omega)
theorem y9q {k:Int} {s:z0d} (h:SB k s) (hk:k≤1000000) (t v:Bs) (ht:t.length≤100000) (hv:v.length≤100000) :
  Ok (z4c s t v) fun r=>r.1.length≤2 * t.length+v.length+4∧SB (k+3) r.2:=by
 unfold z4c
 refine y0u (fun _=>z2x ⟨by simp only; omega,h.mono (by omega)⟩) (fun h0 => ?_)
 simp only [Bool.or_eq_true,decide_eq_true_eq,not_or] at h0
 have ht0:0 < t.length:=by cases hq:t with | nil=>exact absurd hq h0.1 | cons _ _=>simp
 have hv0:0 < v.length:=by cases hq:v with | nil=>exact absurd hq h0.2 | cons _ _=>simp
 refine z07 (z9t h (by omega) _ (by omega)) fun r5 h5=>z07 (z9t h5.2 (by omega) _ (by omega)) fun r7 h7 => ?_
 have b5:=h5.1.2.1 (by omega)
 have b7:=h7.1.2.1 (by omega)
 have c5:=h5.1.1
 have c7:=h7.1.1
 have hat:Ok (at? v r7.1) fun _=>True:=by
  unfold at?
  rw [if_pos c7,List.getElem?_eq_getElem (by omega)]
  exact ⟨_,rfl,trivial⟩
 refine z07 hat fun x9 _=>z07 (z9t h7.2 (by omega) 3 (by omega)) fun r11 h11 => ?_
 have he:=x51 x9
 have hw:wr (r5.1+1)=r5.1+1:=z8s (by omega)
 have hS:SB (k+3) r11.2:=h11.2.mono (by omega)
 rw [hw]
 refine y0u (fun _ => ?_) (fun _=>y0u (fun _ => ?_) (fun _ => ?_))
 ·refine z07 (y38 t _ _ ⟨by omega,by omega,by omega⟩) fun l14 h14=>ok_g (by omega) (z07 (y38 t _ _ ⟨by omega,by omega,by omega⟩) fun l17 h17=>ok_g (by simp; omega) (z2x ⟨by simp; omega,hS⟩))
 ·refine z07 (y38 t _ _ ⟨by omega,by omega,by omega⟩) fun l14 h14=>ok_g (by omega) (z07 (y38 t _ _ ⟨by omega,by omega,by omega⟩) fun l17 h17=>ok_g (by simp; omega) (z2x ⟨by simp; omega,hS⟩))
 ·refine z07 (y38 t _ _ ⟨by omega,by omega,by omega⟩) fun l14 h14=>z07 (y38 t _ _ ⟨by omega,by omega,by omega⟩) fun l17 h17=>ok_g (by omega) (z2x ⟨by simp; omega,hS⟩)
end Go.Proofs.YtihjlkocfeoelaaGreatDoor
