/- Plain: a text with one sign changed. -/
import Derived.Test.YtkckjgkfljgjpaaGreatDoorKeZg
namespace Go.Proofs.YtkckjgkfljgjpaaGreatDoor
set_option linter.unusedVariables false
set_option maxRecDepth 20000
theorem w4f (c:UInt8):(encL (IntKind.wrap .i32 (c.toNat:Int))).length≤4:=by
 have:=y7e (fun c=>decide ((encL (IntKind.wrap .i32 (c.toNat:Int))).length≤4)) (by decide +kernel) c
 exact of_decide_eq_true this
theorem x0t (l:Bs) (a b:Int) (h:0≤a∧a≤b∧b≤(l.length:Int)):Ok (sub? l a b) fun r=>r.length≤l.length:=by
 unfold sub?
 rw [if_pos h]
 exact z1z (by simp; omega)
theorem x1a {k:Int} {s:z0d} (h:SB k s) (hk:k≤1000000) (t v:Bs) (ht:t.length≤100000) (hv:v.length≤100000) :
  Ok (z5c s t v) fun r=>r.1.length≤2 * t.length+v.length+4∧SB (k+3) r.2:=by
 unfold z5c
 refine y2r (fun _=>z1z ⟨by simp only; omega,h.mono (by omega)⟩) (fun h0 => ?_)
 simp only [Bool.or_eq_true,decide_eq_true_eq,not_or] at h0
 have ht0:0 < t.length:=by cases hq:t with | nil=>exact absurd hq h0.1 | cons _ _=>simp
 have hv0:0 < v.length:=by cases hq:v with | nil=>exact absurd hq h0.2 | cons _ _=>simp
 refine z02 (y29 h (by omega) _ (by omega)) fun r5 h5=>z02 (y29 h5.2 (by omega) _ (by omega)) fun r7 h7 => ?_
 have b5:=h5.1.2.1 (by omega)
 have b7:=h7.1.2.1 (by omega)
 have c5:=h5.1.1
 have c7:=h7.1.1
 have hat:Ok (at? v r7.1) fun _=>True:=by
  unfold at?
  rw [if_pos c7,List.getElem?_eq_getElem (by omega)]
  exact ⟨_,rfl,trivial⟩
 refine z02 hat fun x9 _=>z02 (y29 h7.2 (by omega) 3 (by omega)) fun r11 h11 => ?_
 have he:=w4f x9
 have hw:wr (r5.1+1)=r5.1+1:=y1g (by omega)
 have hS:SB (k+3) r11.2:=h11.2.mono (by omega)
 rw [hw]
 refine y2r (fun _ => ?_) (fun _=>y2r (fun _ => ?_) (fun _ => ?_))
 ·refine z02 (x0t t _ _ ⟨by omega,by omega,by omega⟩) fun l14 h14=>ok_g (by omega) (z02 (x0t t _ _ ⟨by omega,by omega,by omega⟩) fun l17 h17=>ok_g (by simp; omega) (z1z ⟨by simp; omega,hS⟩))
 ·refine z02 (x0t t _ _ ⟨by omega,by omega,by omega⟩) fun l14 h14=>ok_g (by omega) (z02 (x0t t _ _ ⟨by omega,by omega,by omega⟩) fun l17 h17=>ok_g (by simp; omega) (z1z ⟨by simp; omega,hS⟩))
 ·refine z02 (x0t t _ _ ⟨by omega,by omega,by omega⟩) fun l14 h14=>z02 (x0t t _ _ ⟨by omega,by omega,by omega⟩) fun l17 h17=>ok_g (by omega) (z1z ⟨by simp; omega,hS⟩)
end Go.Proofs.YtkckjgkfljgjpaaGreatDoor
