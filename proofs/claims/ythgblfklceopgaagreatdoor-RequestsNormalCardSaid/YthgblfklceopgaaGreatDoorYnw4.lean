/- Walks along the models. Printed by a program. -/
import Derived.Test.YthgblfklceopgaaGreatDoorYnw3
namespace Go.Proofs.YthgblfklceopgaaGreatDoor
open Go.RowKit
set_option linter.unusedVariables false
set_option maxRecDepth 20000
set_option maxHeartbeats 2000000
theorem zhy (s1 : (List zag)) (p1 : zag → Option (Bool)) (fv1 : Nat) (us1 : List V) (hp1 : ∀ a0 r, p1 a0 = some r → Fn Tryz.prog fv1 ([vagg (za1 a0)] ++ us1) (zbe [za2 r])) (r : ((List zag))) (H : zbw s1 p1 = some r) : FnG Tryz.prog 40 [.row 0 s1.length, .dat (vfn fv1 us1)] [(0, .row 68 2 (List.map za1 s1))] (.row 900 r.length) [(900, .row 68 2 (List.map za1 r))] := by
 refine zpe (by kernel_rfl) Tryz.func40 rfl rfl rfl rfl fun X A hN => ?_
 unfold zbw at H
 refine zac ?_
 refine zab hN rfl ?_
 refine qe rfl ?_
 refine zac ?_
 refine zab hN rfl ?_
 refine zaa (zah (.row _ _) rfl) ?_
 refine qd rfl ?_
 obtain ⟨r2, h3, H⟩ := bnd H
 refine zau (zt2 (id := 0) (es := List.map za1 s1) (zln s1 p1 fv1 us1 hp1 r2 h3) ⟨.inr ⟨(congrArg (Slot.row 0) (by rw [List.length_map]) : Slot.row 0 s1.length = _), rfl⟩, .inl (.inl (.inl rfl)), trivial⟩ (fun _ _ _ _ h => h)) rfl ?_
 refine qe rfl ?_
 refine zac ?_
 refine zac ?_
 refine zab hN rfl ?_
 refine qd rfl ?_
 refine zaa (zb6 rfl rfl) ?_
 refine zai _ rfl (fun h4 => ?_) (fun h4 => ?_)
 ·replace H := ift h4 H
  refine zac ?_
  refine zab hN rfl ?_
  refine zaa (zah (.row _ _) rfl) ?_
  refine zaa (zbb (.row _ _) rfl) ?_
  refine zsy 4 0 900 rfl rfl (by rw [List.length_map]) rfl ?_
  refine zap ?_
  cases H
  exact ⟨trivial, [(4, .row 900 _)], ⟨rfl, trivial⟩, ⟨rfl, trivial⟩, rfl, .inr (.inl ⟨4, rfl, rfl⟩)⟩
 ·replace H := iff_ h4 H
  refine zan ?_
  refine zax (ι := Int × (List zag)) (fun i => [(0, .row 0 i.2.length), (5, .dat (vint i.1))]) (fun i => [(0, .row 68 2 (List.map za1 i.2))]) (fun i => zc3 i.1 i.2 = some r) (fun i => rfl) ?_ ?_
  ·skip
   refine zac ?_
   refine zab hN rfl ?_
   refine qd rfl ?_
   refine zaa (za8 _ rfl rfl (.inl ⟨rfl, rfl⟩)) ?_
   refine qe rfl ?_
   refine zat ?_
   refine zlf (fun (s : Int × Int × (List zag)) => [(0, .row 0 s.2.2.length), (1, .dat (vfn fv1 us1)), (5, .dat (vint s.1)), (6, .dat (vint s.2.1))]) (fun (s : Int × Int × (List zag)) => [(0, .row 68 2 (List.map za1 s.2.2))]) (r2, wr (r2 + 1), s1) H ⟨rfl, rfl, rfl, rfl, trivial⟩ ⟨rfl, trivial⟩ (fun _ => rfl) ?_
   rintro ⟨i5, j6, l7⟩ q8 H hq8
   replace H : zem p1 i5 j6 l7 = some q8 := H
   unfold zem at H
   refine zac ?_
   refine zac ?_
   refine zab hN rfl ?_
   refine qd rfl ?_
   refine zaa (zah (.row _ _) rfl) ?_
   refine zau (zu2 ztr rfl rfl) rfl ?_
   refine zaa (za3 rfl rfl) ?_
   refine zai _ rfl (fun h9 => ?_) (fun h9 => ?_)
   ·replace H := ift h9 H
    refine zan ?_
    refine zax (ι := Int × (List zag)) (fun i => [(0, .row 0 i.2.length), (1, .dat (vfn fv1 us1)), (5, .dat (vint i.1)), (6, .dat (vint j6))]) (fun i => [(0, .row 68 2 (List.map za1 i.2))]) (fun i => zb7 j6 i.1 i.2 = some q8) (fun i => rfl) ?_ ?_
    ·skip
     refine zat ?_
     refine zac ?_
     refine zab hN rfl ?_
     refine zaa (zah (.row _ _) rfl) ?_
     refine qd rfl ?_
     obtain ⟨x10, h11, H⟩ := bnd H
     refine zau (zvp zsh rfl rfl rfl h11) rfl ?_
     refine zau (zvo zp5 rfl rfl (zk2 h11).2 rfl) rfl ?_
     refine zal (zdf 1 zwq rfl) rfl ?_
     refine zal (zb9 zp5 rfl rfl rfl rfl) rfl ?_
     refine zac ?_
     refine zab hN rfl ?_
     refine qd rfl ?_
     refine zau (zf6 zp5 rfl rfl rfl) rfl ?_
     obtain ⟨r12, h13, H⟩ := bnd H
     refine zaa (zqi (hp1 x10 r12 h13) rfl ⟨.inl rfl, trivial⟩) ?_
     refine zaa (zck rfl) ?_
     refine zai _ rfl (fun h14 => ?_) (fun h14 => ?_)
     ·replace H := ift h14 H
      refine zac ?_
      refine zab hN rfl ?_
      refine zaa (zah (.row _ _) rfl) ?_
      refine qd rfl ?_
      refine zau (zf6 zp5 rfl rfl rfl) rfl ?_
      obtain ⟨x15, h16, H⟩ := bnd H
      refine zau (zvp zsh rfl rfl rfl h16) rfl ?_
      refine zal (zwu (C := za1) zp5 rfl rfl rfl (z44 (zk2 h16).2) rfl rfl) rfl ?_
      refine zab hN rfl ?_
      refine qd rfl ?_
      refine zaa (za8 _ rfl rfl (.inl ⟨rfl, rfl⟩)) ?_
      refine qe rfl ?_
      exact ⟨(wr (i5 + 1), (l7.set i5.toNat x10)), H, ⟨congrArg (Slot.row 0) (by simp), rfl, rfl, rfl, trivial⟩, ⟨rfl, trivial⟩⟩
     ·replace H := iff_ h14 H
      refine zan ?_
      exact ⟨(i5, l7), H, ⟨rfl, rfl, rfl, rfl, trivial⟩, ⟨rfl, trivial⟩⟩
    ·rintro ⟨i17, s18⟩ H
     replace H : zb7 j6 i17 s18 = some q8 := H
     unfold zb7 at H
     refine zab hN rfl ?_
     refine qd rfl ?_
     refine zaa (za8 _ rfl rfl (.inl ⟨rfl, rfl⟩)) ?_
     refine qe rfl ?_
     exact ⟨_, zio H, ⟨rfl, rfl, rfl, rfl, trivial⟩, ⟨rfl, trivial⟩⟩
   ·replace H := iff_ h9 H
    refine zbp ?_
    replace H := outl H hq8
    exact ⟨(i5, l7), H, ⟨rfl, rfl, trivial⟩, ⟨rfl, trivial⟩⟩
  ·rintro ⟨i19, s20⟩ H
   replace H : zc3 i19 s20 = some r := H
   unfold zc3 at H
   refine zac ?_
   refine zab hN rfl ?_
   refine zaa (zah (.row _ _) rfl) ?_
   refine qd rfl ?_
   obtain ⟨h21, H⟩ := gif H
   refine zau (z5j (C := za1) zsh rfl rfl rfl h21) rfl ?_
   refine zal (z00 (C := za1) (zag.mk [] []) ztr zwq rfl rfl rfl rfl rfl h21) rfl ?_
   refine zac ?_
   refine zab hN rfl ?_
   refine zaa (zah (.row _ _) rfl) ?_
   refine qd rfl ?_
   obtain ⟨h22, H⟩ := gif H
   refine zvw (z6h (C := za1) 2 zsh rfl (z2v (zag.mk [] []) h21) rfl h22) rfl rfl ?_
   refine zaa (zbb (.row _ _) rfl) ?_
   refine zsy 4 2 900 rfl rfl (by rw [List.length_map]; exact (zyr h22)) rfl ?_
   refine zap ?_
   cases H
   exact ⟨trivial, [(4, .row 900 _)], ⟨rfl, trivial⟩, ⟨rfl, trivial⟩, rfl, .inr (.inl ⟨4, rfl, congrArg (Slot.row 900) (by simp <;> omega)⟩)⟩
theorem zqp (s1 : Bs) (r : ((List zag) × Int)) (H : zej s1 = some r) : FnG Tryz.prog 39 [.dat (vstr s1)] [] (.comp true [.row 900 r.1.length, .dat (vint r.2)]) [(900, .row 68 2 (List.map za1 r.1))] := by
 refine zpe (by kernel_rfl) Tryz.func39 rfl rfl rfl rfl fun X A hN => ?_
 unfold zej at H
 refine zac ?_
 refine zab hN rfl ?_
 refine qe rfl ?_
 refine qe rfl ?_
 refine zac ?_
 refine zac ?_
 refine zab hN rfl ?_
 refine qd rfl ?_
 obtain ⟨r2, h3, H⟩ := bnd H
 refine zaa (zak (znx s1 r2 h3) ⟨.inl rfl, trivial⟩) ?_
 refine qe rfl ?_
 refine zac ?_
 refine zab hN rfl ?_
 refine qd rfl ?_
 refine zaa (zfw rfl rfl) ?_
 refine zai _ rfl (fun h4 => ?_) (fun h4 => ?_)
 ·replace H := ift h4 H
  refine zac ?_
  refine zab hN rfl ?_
  refine qd rfl ?_
  refine qe rfl ?_
  refine qe rfl ?_
  refine zeh 2 900 68 2 rfl rfl rfl ?_
  refine zap ?_
  cases H
  exact ⟨trivial, [(2, .row 900 _), (3, .dat (vint r2))], ⟨rfl, rfl, trivial⟩, ⟨rfl, trivial⟩, rfl, .inr (.inr ⟨.row 900 [].length, .dat (vint r2), [], ⟨rfl, rfl, trivial⟩, rfl⟩)⟩
 ·replace H := iff_ h4 H
  refine zan ?_
  refine zac ?_
  refine zab hN rfl ?_
  refine qe rfl ?_
  refine zac ?_
  refine zac ?_
  refine zab hN rfl ?_
  refine qd rfl ?_
  obtain ⟨r5, h6, H⟩ := bnd H
  refine zaa (zak (zkp s1 [38] r5 h6) ⟨.inl rfl, .inl rfl, trivial⟩) ?_
  refine zaa (zks zse rfl) ?_
  refine qd rfl ?_
  refine zat ?_
  refine zeh 5 1 68 2 rfl rfl rfl ?_
  obtain ⟨h10, H⟩ := gif H
  refine zed (fun (k8 : Nat) (s : (List zag)) => [(5, .row 1 s.length), (21, .dat (vlst (List.map zay r5))), (22, .dat (vint (r5.length : Int))), (23, .dat (vint (k8 : Int)))]) (fun (k8 : Nat) (s : (List zag)) => [(1, .row 68 2 (List.map za1 s))]) [] H ⟨rfl, rfl, rfl, rfl, trivial⟩ ⟨rfl, trivial⟩ (fun _ _ => rfl) ?_ ?_
  ·rintro l7 H
   replace H : zdz l7 = some r := H
   unfold zdz at H
   refine zac ?_
   refine zab hN rfl ?_
   refine zaa (za3 rfl rfl) ?_
   refine zac ?_
   refine zai _ rfl (fun h => (lt_t h).elim) (fun h => ?_)
   refine zbp ?_
   refine zac ?_
   refine zac ?_
   refine zab hN rfl ?_
   refine zaa (zah (.row _ _) rfl) ?_
   refine zau (zu2 ztr rfl rfl) rfl ?_
   refine zaa (zg1 rfl rfl) ?_
   refine zai _ rfl (fun h12 => ?_) (fun h12 => ?_)
   ·replace H := ift h12 H
    refine zac ?_
    refine zab hN rfl ?_
    refine qe rfl ?_
    refine qe rfl ?_
    refine zeh 2 900 68 2 rfl rfl rfl ?_
    refine zap ?_
    cases H
    exact ⟨trivial, [(2, .row 900 _), (3, .dat (vint 2))], ⟨rfl, rfl, trivial⟩, ⟨rfl, trivial⟩, rfl, .inr (.inr ⟨.row 900 [].length, .dat (vint 2), [], ⟨rfl, rfl, trivial⟩, rfl⟩)⟩
   ·replace H := iff_ h12 H
    refine zan ?_
    refine zac ?_
    refine zab hN rfl ?_
    refine zaa (zah (.row _ _) rfl) ?_
    refine zaa (zbb (.row _ _) rfl) ?_
    refine qe rfl ?_
    refine zsy 2 1 900 rfl rfl (by rw [List.length_map]) rfl ?_
    refine zap ?_
    cases H
    exact ⟨trivial, [(2, .row 900 _), (3, .dat (vint 0))], ⟨rfl, rfl, trivial⟩, ⟨rfl, trivial⟩, rfl, .inr (.inr ⟨.row 900 l7.length, .dat (vint 0), [], ⟨rfl, rfl, trivial⟩, rfl⟩)⟩
  ·rintro k8 x11 l7 q9 h13 h14 H hq9
   replace H : zfd k8 x11 l7 = some q9 := H
   unfold zfd at H
   refine zac ?_
   refine zab hN rfl ?_
   refine zaa (za3 rfl rfl) ?_
   refine zac ?_
   refine zai _ rfl (fun h => ?_) (fun h => (lt_f h13 h).elim)
   refine zan ?_
   refine zax (ι := (List zag)) (fun i => [(5, .row 1 i.length), (21, .dat (vlst (List.map zay r5))), (22, .dat (vint (r5.length : Int))), (23, .dat (vint (k8 : Int)))]) (fun i => [(1, .row 68 2 (List.map za1 i))]) (fun i => zgj i = some q9) (fun i => rfl) ?_ ?_
   ·skip
    refine zat ?_
    refine zac ?_
    refine zab hN rfl ?_
    refine zaa (zn2 zut (fun _ => rfl) rfl rfl h14) ?_
    refine zaa (ze9 tyS9 rfl (zjk h14) rfl) ?_
    refine qe rfl ?_
    refine zac ?_
    refine zac ?_
    refine zab hN rfl ?_
    refine qd rfl ?_
    refine zaa (zdw rfl rfl) ?_
    refine zai _ rfl (fun h15 => ?_) (fun h15 => ?_)
    ·replace H := ift h15 H
     refine zbp ?_
     exact ⟨l7, H, ⟨rfl, rfl, rfl, rfl, trivial⟩, ⟨rfl, trivial⟩⟩
    ·replace H := iff_ h15 H
     refine zan ?_
     refine zac ?_
     refine zab hN rfl ?_
     refine qd rfl ?_
     obtain ⟨r16, h17, H⟩ := bnd H
     refine zaa (zak (zmq x11 [61] r16 h17) ⟨.inl rfl, .inl rfl, trivial⟩) ?_
     refine qd rfl ?_
     refine zaa (zbj rfl rfl) ?_
     refine zaa (zbj rfl rfl) ?_
     refine zaa (zbj rfl rfl) ?_
     refine qe rfl ?_
     refine qe rfl ?_
     refine qe rfl ?_
     refine zac ?_
     refine zab hN rfl ?_
     refine qd rfl ?_
     obtain ⟨r18, h19, H⟩ := bnd H
     refine zaa (zak (zo9 r16.1 true r18 h19) ⟨.inl rfl, .inl rfl, trivial⟩) ?_
     refine qd rfl ?_
     refine zaa (zbj rfl rfl) ?_
     refine zaa (zbj rfl rfl) ?_
     refine qe rfl ?_
     refine qe rfl ?_
     refine zac ?_
     refine zab hN rfl ?_
     refine qd rfl ?_
     obtain ⟨r20, h21, H⟩ := bnd H
     refine zaa (zak (zo9 r16.2.1 true r20 h21) ⟨.inl rfl, .inl rfl, trivial⟩) ?_
     refine qd rfl ?_
     refine zaa (zbj rfl rfl) ?_
     refine zaa (zbj rfl rfl) ?_
     refine qe rfl ?_
     refine qe rfl ?_
     refine zac ?_
     refine zac ?_
     refine zab hN rfl ?_
     refine qd rfl ?_
     refine zaa (zck rfl) ?_
     refine qd rfl ?_
     refine ziq rfl rfl (fun hc => zah (.dat _) rfl) ?_
     refine ziq rfl rfl (fun hc => zck (cnd (c := (!(!r18.2))) hc)) ?_
     refine zaa (zhz rfl rfl (fun hb => (cnd (c := (!(!r18.2))) (notI hb)))) ?_
     refine zai _ rfl (fun h22 => ?_) (fun h22 => ?_)
     ·replace H := ift h22 H
      refine zac ?_
      refine zab hN rfl ?_
      refine qe rfl ?_
      refine qe rfl ?_
      refine zeh 2 900 68 2 rfl rfl rfl ?_
      refine zap ?_
      replace H := retl H hq9
      cases H
      exact ⟨trivial, [(2, .row 900 _), (3, .dat (vint 9))], ⟨rfl, rfl, trivial⟩, ⟨rfl, trivial⟩, rfl, .inr (.inr ⟨.row 900 [].length, .dat (vint 9), [], ⟨rfl, rfl, trivial⟩, rfl⟩)⟩
     ·replace H := iff_ h22 H
      refine zan ?_
      refine zab hN rfl ?_
      refine zaa (zah (.row _ _) rfl) ?_
      refine qd rfl ?_
      refine qd rfl ?_
      refine zaa (za4 (u' := vagg (za1 (zag.mk r18.1 r20.1))) (zd5 [(0, [vstr r18.1]), (1, [vstr r20.1])] zwq z3j rfl ⟨rfl, .inl ⟨_, rfl, rfl, rfl⟩, rfl, rfl, .inl ⟨_, rfl, rfl, rfl⟩, rfl, trivial⟩) rfl) ?_
      refine zaa (za4 (u' := vlst (List.map za1 [(zag.mk r18.1 r20.1)])) (zcl [_] z3k ⟨rfl, .inr rfl, rfl, trivial⟩ rfl rfl) rfl) ?_
      obtain ⟨h23, H⟩ := gif H
      refine zal (zm1 z3k (fun _ => rfl) rfl rfl rfl ⟨by simp, by first | (simp; done) | simpa using h23⟩ rfl) rfl ?_
      refine zaa (zbb (.row _ _) rfl) ?_
      exact ⟨(l7 ++ [(zag.mk r18.1 r20.1)]), H, ⟨rfl, rfl, rfl, rfl, trivial⟩, ⟨rfl, trivial⟩⟩
   ·rintro out24 H
    replace H : zgj out24 = some q9 := H
    unfold zgj at H
    refine zab hN rfl ?_
    refine zaa (zfc rfl rfl (by omega)) ?_
    refine qd rfl ?_
    exact ⟨_, zio H, ⟨rfl, rfl, rfl, rfl, trivial⟩, ⟨rfl, trivial⟩⟩
theorem zr6 (p1 : zag) (r : (Bool)) (H : zj2 p1 = some r) : Fn Tryz.prog 41 [vagg (za1 p1)] (zbe [za2 r]) := by
 refine ⟨by kernel_rfl, za7 (us := [za2 r]) Tryz.func41 rfl rfl rfl rfl fun X hN => ?_⟩
 unfold zj2 at H
 refine zac ?_
 refine zab hN rfl ?_
 refine zal (zju 1 rfl) rfl ?_
 refine qe rfl ?_
 refine zac ?_
 refine zab hN rfl ?_
 refine zau (zf6 zp5 rfl rfl rfl) rfl ?_
 refine zaa (za4 (u' := vagg (za1 (zag.mk [] []))) (zd5 [] zwq z3j rfl trivial) rfl) ?_
 refine zaa (zy8 [_, _] [_, _] z73 rfl rfl rfl) ?_
 refine qe rfl ?_
 refine zap ?_
 cases H
 exact ⟨trivial, .inl rfl, trivial⟩
theorem zso (x1 : Int) (r : (Int)) (H : zm5 x1 = some r) : Fn Tryz.prog 150 [vval (.int .u32 x1)] (zbe [vint r]) := by
 refine ⟨by kernel_rfl, za7 (us := [vint r]) Tryz.func150 rfl rfl rfl rfl fun X hN => ?_⟩
 unfold zm5 at H
 refine zac ?_
 refine zab hN rfl ?_
 refine qe rfl ?_
 refine zax (ι := Int × Int) (fun i => [(0, .dat (vval (.int .u32 i.1))), (2, .dat (vint i.2))]) (fun i => []) (fun i => zj0 i.1 i.2 = some r) (fun i => rfl) ?_ ?_
 ·skip
  refine zac ?_
  refine zab hN rfl ?_
  refine qd rfl ?_
  refine zaa (zi7 rfl rfl) ?_
  refine zai _ rfl (fun h2 => ?_) (fun h2 => ?_)
  ·replace H := ift h2 H
   refine zac ?_
   refine zab hN rfl ?_
   refine qd rfl ?_
   refine zaa (za4 (zrk rfl rfl (by decide)) rfl) ?_
   refine qe rfl ?_
   refine zab hN rfl ?_
   refine qe rfl ?_
   exact ⟨((shr_ .u32 x1 16), 16), H, ⟨rfl, rfl, trivial⟩, trivial⟩
  ·replace H := iff_ h2 H
   refine zan ?_
   exact ⟨(x1, 0), H, ⟨rfl, rfl, trivial⟩, trivial⟩
 ·rintro ⟨x3, n4⟩ H
  replace H : zj0 x3 n4 = some r := H
  unfold zj0 at H
  refine zax (ι := Int × Int) (fun i => [(0, .dat (vval (.int .u32 i.1))), (2, .dat (vint i.2))]) (fun i => []) (fun i => zjz i.1 i.2 = some r) (fun i => rfl) ?_ ?_
  ·skip
   refine zac ?_
   refine zab hN rfl ?_
   refine qd rfl ?_
   refine zaa (zi7 rfl rfl) ?_
   refine zai _ rfl (fun h5 => ?_) (fun h5 => ?_)
   ·replace H := ift h5 H
    refine zac ?_
    refine zab hN rfl ?_
    refine qd rfl ?_
    refine zaa (za4 (zrk rfl rfl (by decide)) rfl) ?_
    refine qe rfl ?_
    refine zab hN rfl ?_
    refine qd rfl ?_
    refine zaa (za8 _ rfl rfl (.inl ⟨rfl, rfl⟩)) ?_
    refine qe rfl ?_
    exact ⟨((shr_ .u32 x3 8), wr (n4 + 8)), H, ⟨rfl, rfl, trivial⟩, trivial⟩
   ·replace H := iff_ h5 H
    refine zan ?_
    exact ⟨(x3, n4), H, ⟨rfl, rfl, trivial⟩, trivial⟩
  ·rintro ⟨x6, n7⟩ H
   replace H : zjz x6 n7 = some r := H
   unfold zjz at H
   refine zac ?_
   refine zab hN rfl ?_
   refine qd rfl ?_
   refine qd rfl ?_
   refine zaa (zih z5d tyU5 rfl) ?_
   obtain ⟨x8, h9, H⟩ := bnd H
   refine zaa (zvq tyU9 rfl rfl h9) ?_
   refine zaa (zih tyU5 tyU3 rfl) ?_
   refine zaa (za8 _ rfl rfl (.inl ⟨rfl, rfl⟩)) ?_
   refine qe rfl ?_
   refine zap ?_
   cases H
   exact ⟨trivial, .inl rfl, trivial⟩
theorem zsn (x1 : Int) (r : (Int)) (H : zm4 x1 = some r) : Fn Tryz.prog 151 [vval (.int .u64 x1)] (zbe [vint r]) := by
 refine ⟨by kernel_rfl, za7 (us := [vint r]) Tryz.func151 rfl rfl rfl rfl fun X hN => ?_⟩
 unfold zm4 at H
 refine zac ?_
 refine zab hN rfl ?_
 refine qe rfl ?_
 refine zax (ι := Int × Int) (fun i => [(0, .dat (vval (.int .u64 i.1))), (2, .dat (vint i.2))]) (fun i => []) (fun i => zjy i.1 i.2 = some r) (fun i => rfl) ?_ ?_
 ·skip
  refine zac ?_
  refine zab hN rfl ?_
  refine qd rfl ?_
  refine zaa (zi7 rfl rfl) ?_
  refine zai _ rfl (fun h2 => ?_) (fun h2 => ?_)
  ·replace H := ift h2 H
   refine zac ?_
   refine zab hN rfl ?_
   refine qd rfl ?_
   refine zaa (za4 (zrk rfl rfl (by decide)) rfl) ?_
   refine qe rfl ?_
   refine zab hN rfl ?_
   refine qe rfl ?_
   exact ⟨((shr_ .u64 x1 32), 32), H, ⟨rfl, rfl, trivial⟩, trivial⟩
  ·replace H := iff_ h2 H
   refine zan ?_
   exact ⟨(x1, 0), H, ⟨rfl, rfl, trivial⟩, trivial⟩
 ·rintro ⟨x3, n4⟩ H
  replace H : zjy x3 n4 = some r := H
  unfold zjy at H
  refine zax (ι := Int × Int) (fun i => [(0, .dat (vval (.int .u64 i.1))), (2, .dat (vint i.2))]) (fun i => []) (fun i => zjx i.1 i.2 = some r) (fun i => rfl) ?_ ?_
  ·skip
   refine zac ?_
   refine zab hN rfl ?_
   refine qd rfl ?_
   refine zaa (zi7 rfl rfl) ?_
   refine zai _ rfl (fun h5 => ?_) (fun h5 => ?_)
   ·replace H := ift h5 H
    refine zac ?_
    refine zab hN rfl ?_
    refine qd rfl ?_
    refine zaa (za4 (zrk rfl rfl (by decide)) rfl) ?_
    refine qe rfl ?_
    refine zab hN rfl ?_
    refine qd rfl ?_
    refine zaa (za8 _ rfl rfl (.inl ⟨rfl, rfl⟩)) ?_
    refine qe rfl ?_
    exact ⟨((shr_ .u64 x3 16), wr (n4 + 16)), H, ⟨rfl, rfl, trivial⟩, trivial⟩
   ·replace H := iff_ h5 H
    refine zan ?_
    exact ⟨(x3, n4), H, ⟨rfl, rfl, trivial⟩, trivial⟩
  ·rintro ⟨x6, n7⟩ H
   replace H : zjx x6 n7 = some r := H
   unfold zjx at H
   refine zax (ι := Int × Int) (fun i => [(0, .dat (vval (.int .u64 i.1))), (2, .dat (vint i.2))]) (fun i => []) (fun i => zjw i.1 i.2 = some r) (fun i => rfl) ?_ ?_
   ·skip
    refine zac ?_
    refine zab hN rfl ?_
    refine qd rfl ?_
    refine zaa (zi7 rfl rfl) ?_
    refine zai _ rfl (fun h8 => ?_) (fun h8 => ?_)
    ·replace H := ift h8 H
     refine zac ?_
     refine zab hN rfl ?_
     refine qd rfl ?_
     refine zaa (za4 (zrk rfl rfl (by decide)) rfl) ?_
     refine qe rfl ?_
     refine zab hN rfl ?_
     refine qd rfl ?_
     refine zaa (za8 _ rfl rfl (.inl ⟨rfl, rfl⟩)) ?_
     refine qe rfl ?_
     exact ⟨((shr_ .u64 x6 8), wr (n7 + 8)), H, ⟨rfl, rfl, trivial⟩, trivial⟩
    ·replace H := iff_ h8 H
     refine zan ?_
     exact ⟨(x6, n7), H, ⟨rfl, rfl, trivial⟩, trivial⟩
   ·rintro ⟨x9, n10⟩ H
    replace H : zjw x9 n10 = some r := H
    unfold zjw at H
    refine zac ?_
    refine zab hN rfl ?_
    refine qd rfl ?_
    refine qd rfl ?_
    refine zaa (zih zry tyU5 rfl) ?_
    obtain ⟨x11, h12, H⟩ := bnd H
    refine zaa (zvq tyU9 rfl rfl h12) ?_
    refine zaa (zih tyU5 tyU3 rfl) ?_
    refine zaa (za8 _ rfl rfl (.inl ⟨rfl, rfl⟩)) ?_
    refine qe rfl ?_
    refine zap ?_
    cases H
    exact ⟨trivial, .inl rfl, trivial⟩
theorem zuf (x1 : Int) (r : (Int)) (H : zll x1 = some r) : Fn Tryz.prog 95 [vval (.int .u64 x1)] (zbe [vint r]) := by
 refine ⟨by kernel_rfl, za7 (us := [vint r]) Tryz.func95 rfl rfl rfl rfl fun X hN => ?_⟩
 unfold zll at H
 refine zac ?_
 refine zab hN rfl ?_
 refine qe rfl ?_
 refine zac ?_
 refine zai _ rfl (fun h2 => ?_) (fun h2 => ?_)
 ·replace H := ift h2 H
  refine zac ?_
  refine zab hN rfl ?_
  refine qd rfl ?_
  refine zaa (zih z3f z5d rfl) ?_
  obtain ⟨r3, h4, H⟩ := bnd H
  refine zaa (zak (zso (IntKind.wrap .u32 x1) r3 h4) ⟨.inl rfl, trivial⟩) ?_
  refine qe rfl ?_
  refine zap ?_
  cases H
  exact ⟨trivial, .inl rfl, trivial⟩
 ·replace H := iff_ h2 H
  refine zan ?_
  refine zac ?_
  refine zab hN rfl ?_
  refine qd rfl ?_
  obtain ⟨r5, h6, H⟩ := bnd H
  refine zaa (zak (zsn x1 r5 h6) ⟨.inl rfl, trivial⟩) ?_
  refine qe rfl ?_
  refine zap ?_
  cases H
  exact ⟨trivial, .inl rfl, trivial⟩
theorem ze8 (data1 : (List zag)) (a2 : Int) (b3 : Int) (p3 : zag → zag → Option (Int)) (fv3 : Nat) (us3 : List V) (hp3 : ∀ a0 a1 r, p3 a0 a1 = some r → Fn Tryz.prog fv3 ([vagg (za1 a0), vagg (za1 a1)] ++ us3) (zbe [vint r])) (r : ((List zag))) (H : zch data1 a2 b3 p3 = some r) : FnG Tryz.prog 142 [.row 0 data1.length, .dat (vint a2), .dat (vint b3), .dat (vfn fv3 us3)] [(0, .rowA undef 68 2 (List.map za1 data1))] (.dat (zbe [])) [(0, .rowA undef 68 2 (List.map za1 r))] := by
 refine zpe (by kernel_rfl) Tryz.func142 rfl rfl rfl rfl fun X A hN => ?_
 unfold zch at H
 refine zac ?_
 refine zab hN rfl ?_
 refine qd rfl ?_
 refine zaa (za8 _ rfl rfl (.inl ⟨rfl, rfl⟩)) ?_
 refine qe rfl ?_
 refine zat ?_
 refine zlf (fun (s : Int × (List zag)) => [(0, .row 0 s.2.length), (1, .dat (vint a2)), (2, .dat (vint b3)), (3, .dat (vfn fv3 us3)), (8, .dat (vint s.1))]) (fun (s : Int × (List zag)) => [(0, .rowA (A.vl 0) 68 2 (List.map za1 s.2))]) (wr (a2 + 1), data1) H ⟨rfl, rfl, rfl, rfl, rfl, trivial⟩ ⟨rfl, trivial⟩ (fun _ => rfl) ?_
 rintro ⟨i4, l5⟩ q6 H hq6
 replace H : ze3 a2 b3 p3 i4 l5 = some q6 := H
 unfold ze3 at H
 refine zac ?_
 refine zac ?_
 refine zab hN rfl ?_
 refine qd rfl ?_
 refine qd rfl ?_
 refine zaa (za3 rfl rfl) ?_
 refine zai _ rfl (fun h7 => ?_) (fun h7 => ?_)
 ·replace H := ift h7 H
  refine zan ?_
  refine zax (ι := (List zag)) (fun i => [(0, .row 0 i.length), (1, .dat (vint a2)), (2, .dat (vint b3)), (3, .dat (vfn fv3 us3)), (8, .dat (vint i4))]) (fun i => [(0, .rowA (A.vl 0) 68 2 (List.map za1 i))]) (fun i => zc6 i4 i = some q6) (fun i => rfl) ?_ ?_
  ·skip
   refine zat ?_
   refine zac ?_
   refine zab hN rfl ?_
   refine qd rfl ?_
   refine qe rfl ?_
   refine zat ?_
   refine zlf (fun (s : Int × (List zag)) => [(0, .row 0 s.2.length), (1, .dat (vint a2)), (2, .dat (vint b3)), (3, .dat (vfn fv3 us3)), (8, .dat (vint i4)), (9, .dat (vint s.1))]) (fun (s : Int × (List zag)) => [(0, .rowA (A.vl 0) 68 2 (List.map za1 s.2))]) (i4, l5) H ⟨rfl, rfl, rfl, rfl, rfl, rfl, trivial⟩ ⟨rfl, trivial⟩ (fun _ => rfl) ?_
   rintro ⟨j8, l9⟩ q10 H hq10
   replace H : ze2 a2 p3 i4 j8 l9 = some q10 := H
   unfold ze2 at H
   refine zac ?_
   refine zax (ι := Bool) (fun i => [(0, .row 0 l9.length), (1, .dat (vint a2)), (2, .dat (vint b3)), (3, .dat (vfn fv3 us3)), (8, .dat (vint i4)), (9, .dat (vint j8)), (34, .dat (za2 i))]) (fun i => [(0, .rowA (A.vl 0) 68 2 (List.map za1 l9))]) (fun i => zcb i4 j8 l9 i = some q10) (fun i => rfl) ?_ ?_
   ·skip
    refine zik mixed hN rfl rfl ?_
    refine qd rfl ?_
    refine qd rfl ?_
    refine zaa (zg1 rfl rfl) ?_
    refine qd rfl ?_
    refine zaz (j := 3) rfl rfl (fun h11 => ?_) (fun h11 => ?_) rfl
    ·have h12 := un1 h11
     replace H := ift h12 H
     refine zam rfl rfl h11 (zah (.dat _) rfl) ?_
     refine zam rfl rfl h11 (zah (.row _ _) rfl) ?_
     refine zam rfl rfl h11 (zah (.dat _) rfl) ?_
     obtain ⟨x13, h14, H⟩ := bnd H
     refine zkf rfl rfl h11 (zsi zsh rfl rfl rfl h14) rfl ?_
     refine zkf rfl rfl h11 (zti zp5 rfl rfl (zk2 h14).2 rfl) rfl ?_
     refine zam rfl rfl h11 (zah (.row _ _) rfl) ?_
     refine zam rfl rfl h11 (zah (.dat _) rfl) ?_
     refine zam rfl rfl h11 (za8 _ rfl rfl (.inr (.inl ⟨rfl, rfl⟩))) ?_
     obtain ⟨x15, h16, H⟩ := bnd H
     refine zkf rfl rfl h11 (zsi zsh rfl rfl rfl h16) rfl ?_
     refine zkf rfl rfl h11 (zti zp5 rfl rfl (zk2 h16).2 rfl) rfl ?_
     obtain ⟨r17, h18, H⟩ := bnd H
     refine zam rfl rfl h11 (zqi (hp3 x13 x15 r17 h18) rfl ⟨.inl rfl, .inl rfl, trivial⟩) ?_
     refine zam rfl rfl h11 (za3 rfl rfl) ?_
     refine zaa (zas rfl (bTT h12) rfl) ?_
     refine ⟨rfl, ?_⟩
     exact ⟨decide (r17 < 0), H, ⟨rfl, rfl, rfl, rfl, rfl, rfl, rfl, trivial⟩, ⟨rfl, trivial⟩⟩
    ·have h19 := un2 h11
     replace H := iff_ h19 H
     refine zae rfl rfl h11 ?_
     refine zae rfl rfl h11 ?_
     refine zae rfl rfl h11 ?_
     refine zae rfl rfl h11 ?_
     refine zae rfl rfl h11 ?_
     refine zae rfl rfl h11 ?_
     refine zae rfl rfl h11 ?_
     refine zae rfl rfl h11 ?_
     refine zae rfl rfl h11 ?_
     refine zae rfl rfl h11 ?_
     refine zae rfl rfl h11 ?_
     refine zae rfl rfl h11 ?_
     refine zaa (zaj rfl (bFF h19) rfl) ?_
     refine ⟨rfl, ?_⟩
     exact ⟨false, H, ⟨rfl, rfl, rfl, rfl, rfl, rfl, rfl, trivial⟩, ⟨rfl, trivial⟩⟩
   ·rintro v20 H
    replace H : zcb i4 j8 l9 v20 = some q10 := H
    unfold zcb at H
    refine zai _ rfl (fun h21 => ?_) (fun h21 => ?_)
    ·replace H := ift h21 H
     refine zan ?_
     refine zac ?_
     refine zat ?_
     refine zik mixed hN rfl rfl ?_
     refine zaa (zah (.row _ _) rfl) ?_
     refine qd rfl ?_
     refine zaa (zah (.row _ _) rfl) ?_
     refine qd rfl ?_
     refine zaa (za8 _ rfl rfl (.inr (.inl ⟨rfl, rfl⟩))) ?_
     refine zaa (zah (.row _ _) rfl) ?_
     refine qd rfl ?_
     refine zaa (za8 _ rfl rfl (.inr (.inl ⟨rfl, rfl⟩))) ?_
     obtain ⟨x22, h23, H⟩ := bnd H
     refine zau (zsi zsh rfl rfl rfl h23) rfl ?_
     refine zau (zti zp5 rfl rfl (zk2 h23).2 rfl) rfl ?_
     refine zaa (zah (.row _ _) rfl) ?_
     refine qd rfl ?_
     obtain ⟨x24, h25, H⟩ := bnd H
     refine zau (zsi zsh rfl rfl rfl h25) rfl ?_
     refine zau (zti zp5 rfl rfl (zk2 h25).2 rfl) rfl ?_
     refine zau (zsi zsh rfl rfl rfl h25) rfl ?_
     refine zal (zwt (C := za1) zp5 rfl rfl rfl (z44 (zk2 h25).2) rfl rfl) rfl ?_
     obtain ⟨x26, h27, H⟩ := bnd H
     refine zau (zsi zsh rfl (by simp) rfl h27) rfl ?_
     refine zal (zwt (C := za1) zp5 rfl rfl (by simp) (z44 (zk2 h27).2) rfl rfl) rfl ?_
     refine ⟨rfl, ?_⟩
     refine zab hN rfl ?_
     refine qd rfl ?_
     refine zaa (za8 _ rfl rfl (.inr (.inl ⟨rfl, rfl⟩))) ?_
     refine qe rfl ?_
     exact ⟨_, zio H, ⟨congrArg (Slot.row 0) (by simp), rfl, rfl, rfl, rfl, rfl, trivial⟩, ⟨rfl, trivial⟩⟩
    ·replace H := iff_ h21 H
     refine zbp ?_
     replace H := outl H hq10
     exact ⟨l9, H, ⟨rfl, rfl, rfl, rfl, rfl, trivial⟩, ⟨rfl, trivial⟩⟩
  ·rintro data28 H
   replace H : zc6 i4 data28 = some q6 := H
   unfold zc6 at H
   refine zab hN rfl ?_
   refine qd rfl ?_
   refine zaa (za8 _ rfl rfl (.inl ⟨rfl, rfl⟩)) ?_
   refine qe rfl ?_
   exact ⟨_, zio H, ⟨rfl, rfl, rfl, rfl, rfl, trivial⟩, ⟨rfl, trivial⟩⟩
 ·replace H := iff_ h7 H
  refine zbp ?_
  replace H := retl H hq6
  have eH : l5 = r := Option.some.inj H
  subst eH
  exact ⟨trivial, [], trivial, ⟨rfl, trivial⟩, rfl, .inl ⟨[], trivial, rfl⟩⟩
theorem zmg (v1 : (List zag)) (v2 : Int) (v3 : Int) (v4 : Int) (p4 : zag → zag → Option (Int)) (fv4 : Nat) (us4 : List V) (hp4 : ∀ a0 a1 r, p4 a0 a1 = some r → Fn Tryz.prog fv4 ([vagg (za1 a0), vagg (za1 a1)] ++ us4) (zbe [vint r])) (r : ((List zag))) (H : zeu v1 v2 v3 v4 p4 = some r) : FnG Tryz.prog 94 [.row 0 v1.length, .dat (vint v2), .dat (vint v3), .dat (vint v4), .dat (vfn fv4 us4)] [(0, .rowA undef 68 2 (List.map za1 v1))] (.dat (zbe [])) [(0, .rowA undef 68 2 (List.map za1 r))] := by
 refine zpe (by kernel_rfl) Tryz.func94 rfl rfl rfl rfl fun X A hN => ?_
 unfold zeu at H
 refine zac ?_
 refine zab hN rfl ?_
 refine qe rfl ?_
 refine zac ?_
 refine zab hN rfl ?_
 refine qe rfl ?_
 refine zat ?_
 refine zlf (fun (s : Int × Int × Int × Bool × Bool) => [(0, .row 0 v1.length), (1, .dat (vint s.1)), (2, .dat (vint s.2.1)), (3, .dat (vint s.2.2.1)), (4, .dat (vfn fv4 us4)), (10, .dat (za2 s.2.2.2.1)), (11, .dat (za2 s.2.2.2.2))]) (fun (s : Int × Int × Int × Bool × Bool) => [(0, .rowA (A.vl 0) 68 2 (List.map za1 v1))]) (v2, v3, v4, true, true) H ⟨rfl, rfl, rfl, rfl, rfl, rfl, rfl, trivial⟩ ⟨rfl, trivial⟩ (fun _ => rfl) ?_
 rintro ⟨v5, v6, v7, v8, v9⟩ q10 H hq10
 replace H : zgx v1 p4 v5 v6 v7 v8 v9 = some q10 := H
 unfold zgx at H
 refine zat ?_
 refine zac ?_
 refine zab hN rfl ?_
 refine qd rfl ?_
 refine qd rfl ?_
 refine zaa (za8 _ rfl rfl (.inr (.inl ⟨rfl, rfl⟩))) ?_
 refine qe rfl ?_
 refine zac ?_
 refine zac ?_
 refine zab hN rfl ?_
 refine qd rfl ?_
 refine zaa (zhp rfl rfl) ?_
 refine zai _ rfl (fun h11 => ?_) (fun h11 => ?_)
 ·replace H := ift h11 H
  refine zac ?_
  refine zab hN rfl ?_
  refine zaa (zah (.row _ _) rfl) ?_
  refine qd rfl ?_
  refine qd rfl ?_
  refine qd rfl ?_
  obtain ⟨r12, h13, H⟩ := bnd H
  obtain ⟨h14, H⟩ := gif H
  refine zcv (rn [(0, 0)]) [(0, _, _, some _)] [] (ze8 v1 v5 v6 p4 fv4 us4 hp4 r12 h13) ⟨rfl, trivial⟩ ⟨.inl (.inl rfl), .inl (.inl rfl), .inl (.inl rfl), .inl (.inl rfl), trivial⟩ ⟨⟨⟨rfl, rfl, rfl⟩, by simp [zt3, h14]⟩, trivial⟩ rfl ?_
  refine zap ?_
  replace H := retl H hq10
  have eH : r12 = r := Option.some.inj H
  subst eH
  exact ⟨trivial, [], trivial, ⟨rfl, trivial⟩, rfl, .inl ⟨[], trivial, rfl⟩⟩
 ·replace H := iff_ h11 H
  refine zan ?_
  refine zac ?_
  refine zac ?_
  refine zab hN rfl ?_
  refine qd rfl ?_
  refine zaa (zb6 rfl rfl) ?_
  refine zai _ rfl (fun h15 => ?_) (fun h15 => ?_)
  ·replace H := ift h15 H
   cases H
  ·replace H := iff_ h15 H
   cases H
theorem zlm (x1 : (List zag)) (p1 : zag → zag → Option (Int)) (fv1 : Nat) (us1 : List V) (hp1 : ∀ a0 a1 r, p1 a0 a1 = some r → Fn Tryz.prog fv1 ([vagg (za1 a0), vagg (za1 a1)] ++ us1) (zbe [vint r])) (r : ((List zag))) (H : zcn x1 p1 = some r) : FnG Tryz.prog 42 [.row 0 x1.length, .dat (vfn fv1 us1)] [(0, .rowA undef 68 2 (List.map za1 x1))] (.dat (zbe [])) [(0, .rowA undef 68 2 (List.map za1 r))] := by
 refine zpe (by kernel_rfl) Tryz.func42 rfl rfl rfl rfl fun X A hN => ?_
 unfold zcn at H
 refine zac ?_
 refine zab hN rfl ?_
 refine zaa (zah (.row _ _) rfl) ?_
 refine zau (z5k ztr rfl rfl) rfl ?_
 refine qe rfl ?_
 refine zab hN rfl ?_
 refine zaa (zah (.row _ _) rfl) ?_
 refine qd rfl ?_
 refine qd rfl ?_
 refine zaa (zih tyU3 z3f rfl) ?_
 obtain ⟨r2, h3, H⟩ := bnd H
 refine zaa (zak (zuf (IntKind.wrap .u64 (x1.length : Int)) r2 h3) ⟨.inl rfl, trivial⟩) ?_
 refine qd rfl ?_
 obtain ⟨r4, h5, H⟩ := bnd H
 obtain ⟨h6, H⟩ := gif H
 refine zcv (rn [(0, 0)]) [(0, _, _, some _)] [] (zmg x1 0 (x1.length : Int) r2 p1 fv1 us1 hp1 r4 h5) ⟨rfl, trivial⟩ ⟨.inl (.inl rfl), .inl (.inl rfl), .inl (.inl rfl), .inl (.inl rfl), .inl (.inl rfl), trivial⟩ ⟨⟨⟨rfl, rfl, rfl⟩, by simp [zt3, h6]⟩, trivial⟩ rfl ?_
 have eH : r4 = r := Option.some.inj H
 subst eH
 exact ⟨trivial, [], trivial, ⟨rfl, trivial⟩, rfl, .inl ⟨[], trivial, rfl⟩⟩
theorem zlx (a b : Bs) (r : Int) (H : zje a b = some r) : Fn Tryz.prog 55 [vstr a, vstr b] (zbe [vint r]) := by
 cases H
 refine zpx (by kernel_rfl) fun M w vs h => ?_
 have h1 := zl1 (us := [.string ⟨a.toArray⟩, .string ⟨b.toArray⟩]) h
 subst h1
 refine (Tryz.strings_Compare ⟨a.toArray⟩ ⟨b.toArray⟩ w).mono ?_
 rintro e w' ⟨rfl, rfl⟩
 exact ⟨_, rfl, rfl, Kp.refl _ _⟩
theorem zp8 (a1 : zag) (b2 : zag) (r : (Int)) (H : zbz a1 b2 = some r) : Fn Tryz.prog 43 [vagg (za1 a1), vagg (za1 b2)] (zbe [vint r]) := by
 refine ⟨by kernel_rfl, za7 (us := [vint r]) Tryz.func43 rfl rfl rfl rfl fun X hN => ?_⟩
 unfold zbz at H
 refine zac ?_
 refine zab hN rfl ?_
 refine zal (zju 1 rfl) rfl ?_
 refine zal (zju 2 rfl) rfl ?_
 refine qe rfl ?_
 refine zac ?_
 refine zac ?_
 refine zab hN rfl ?_
 refine zaa (zaw zno rfl) ?_
 refine zau (zav tyS9 rfl rfl) rfl ?_
 refine zaa (zaw zno rfl) ?_
 refine zau (zav tyS9 rfl rfl) rfl ?_
 refine zaa (zon rfl rfl) ?_
 refine zai _ rfl (fun h3 => ?_) (fun h3 => ?_)
 ·replace H := ift h3 H
  refine zac ?_
  refine zab hN rfl ?_
  refine zaa (zaw zno rfl) ?_
  refine zau (zav tyS9 rfl rfl) rfl ?_
  refine zaa (zaw zno rfl) ?_
  refine zau (zav tyS9 rfl rfl) rfl ?_
  obtain ⟨r4, h5, H⟩ := bnd H
  refine zaa (zak (zlx a1.Name b2.Name r4 h5) ⟨.inl rfl, .inl rfl, trivial⟩) ?_
  refine qe rfl ?_
  refine zap ?_
  cases H
  exact ⟨trivial, .inl rfl, trivial⟩
 ·replace H := iff_ h3 H
  refine zan ?_
  refine zac ?_
  refine zab hN rfl ?_
  refine zaa (zaw zqf rfl) ?_
  refine zau (zav tyS9 rfl rfl) rfl ?_
  refine zaa (zaw zqf rfl) ?_
  refine zau (zav tyS9 rfl rfl) rfl ?_
  obtain ⟨r6, h7, H⟩ := bnd H
  refine zaa (zak (zlx a1.Value b2.Value r6 h7) ⟨.inl rfl, .inl rfl, trivial⟩) ?_
  refine qe rfl ?_
  refine zap ?_
  cases H
  exact ⟨trivial, .inl rfl, trivial⟩
theorem zoe (s1 : Bs) (r : (Bs)) (H : zh5 s1 = some r) : Fn Tryz.prog 96 [vstr s1] (zbe [vstr r]) := by
 refine ⟨by kernel_rfl, za7 (us := [vstr r]) Tryz.func96 rfl rfl rfl rfl fun X hN => ?_⟩
 unfold zh5 at H
 refine zac ?_
 refine zab hN rfl ?_
 refine qe rfl ?_
 refine zac ?_
 refine zab hN rfl ?_
 refine zal (zdf 1 z6b rfl) rfl ?_
 refine zyt 1 0 (.nptr 1) rfl rfl zv0 ?_
 refine zpy 1 1 2 5 1 rfl rfl rfl rfl ?_
 refine zac ?_
 refine zac ?_
 refine zab hN rfl ?_
 refine qd rfl ?_
 refine zaa (za5 tyU9 rfl) ?_
 refine qd rfl ?_
 refine zat ?_
 obtain ⟨h5, H⟩ := gif H
 refine zed (fun (k3 : Nat) (s : (List Int)) => [(0, .dat (vstr s1)), (3, .ptr 1 0), (7, .dat (vint (s1.length : Int))), (8, .dat (vint (k3 : Int)))]) (fun (k3 : Nat) (s : (List Int)) => [(1, .box none 92 [.nptr 1, .row 2 s.length]), (2, .row 5 1 (List.map zcj s))]) ([] : List Int) H ⟨rfl, rfl, rfl, rfl, trivial⟩ ⟨rfl, rfl, trivial⟩ (fun _ _ => rfl) ?_ ?_
 ·rintro l2 H
  replace H : zhi l2 = some r := H
  unfold zhi at H
  refine zac ?_
  refine zab hN rfl ?_
  refine zaa (za3 rfl rfl) ?_
  refine zac ?_
  refine zai _ rfl (fun h => (lt_t h).elim) (fun h => ?_)
  refine zbp ?_
  refine zac ?_
  refine zab hN rfl ?_
  obtain ⟨h7, H⟩ := gif H
  refine zcv (rn [(0, 1), (1, 2)]) [(0, _, _, none), (1, _, _, none)] [] (zsk h7 (C := zcj) (fun _ => rfl)) ⟨rfl, rfl, trivial⟩ ⟨.inl (.inl rfl), trivial⟩ ⟨⟨⟨rfl, rfl⟩, trivial⟩, ⟨⟨rfl, rfl, rfl⟩, trivial⟩, trivial⟩ rfl ?_
  refine qe rfl ?_
  refine zap ?_
  cases H
  exact ⟨trivial, .inl rfl, trivial⟩
 ·rintro k3 x6 l2 q4 h8 h9 H hq4
  replace H : zfx k3 x6 l2 = some q4 := H
  unfold zfx at H
  refine zn1 ?_
  refine zac ?_
  refine zab hN rfl ?_
  refine zaa (za3 rfl rfl) ?_
  refine zac ?_
  refine zai _ rfl (fun h => ?_) (fun h => (lt_f h8 h).elim)
  refine zan ?_
  refine zax (ι := (List Int)) (fun i => [(0, .dat (vstr s1)), (3, .ptr 1 0), (7, .dat (vint (s1.length : Int))), (8, .dat (vint (k3 : Int)))]) (fun i => [(1, .box none 92 [.nptr 1, .row 6 i.length]), (6, .row 5 1 (List.map zcj i))]) (fun i => zfy i = some q4) (fun i => rfl) ?_ ?_
  ·refine zn1 ?_
   refine zat ?_
   refine zac ?_
   refine zab hN rfl ?_
   refine qd rfl ?_
   refine qe rfl ?_
   refine zac ?_
   refine zab hN rfl ?_
   refine qd rfl ?_
   refine qd rfl ?_
   refine zaa (zgg tyU9 rfl rfl h9) ?_
   refine qe rfl ?_
   refine zat ?_
   refine zac ?_
   refine zab hN rfl ?_
   refine qd rfl ?_
   refine zaa (zb6 rfl rfl) ?_
   refine qe rfl ?_
   refine zai _ rfl (fun h10 => ?_) (fun h10 => ?_)
   ·replace H := ift h10 H
    refine zab hN rfl ?_
    obtain ⟨r11, h12, H⟩ := bnd H
    refine zcv (rn [(0, 1), (1, 2), (900, 3)]) [(0, _, _, some _), (1, _, _, none)] [(900, _)] (zcu l2 43 r11 h12) ⟨rfl, rfl, rfl, trivial⟩ ⟨.inl (.inl rfl), .inl (.inl rfl), trivial⟩ ⟨⟨⟨rfl, rfl⟩, trivial⟩, ⟨⟨rfl, rfl, rfl⟩, trivial⟩, trivial⟩ rfl ?_
    refine zlk ?_
    show Cv _ _ _ _
    refine zl7 (rn [(3, 6)]) [(0, .dat (vstr s1)), (3, .ptr 1 0), (7, .dat (vint (s1.length : Int))), (8, .dat (vint (k3 : Int)))] [(1, .box none 92 [.nptr 1, .row 3 r11.2.length]), (3, .row 5 1 (List.map zcj r11.2))] ⟨rfl, rfl, rfl, rfl, trivial⟩ ⟨rfl, rfl, trivial⟩ rfl rfl ?_
    exact ⟨r11.2, H, ⟨rfl, rfl, rfl, rfl, trivial⟩, ⟨rfl, rfl, trivial⟩⟩
   ·replace H := iff_ h10 H
    refine zac ?_
    refine zab hN rfl ?_
    refine qd rfl ?_
    obtain ⟨r13, h14, H⟩ := bnd H
    refine zaa (zak (zp2 (x6.toNat : Int) r13 h14) ⟨.inl rfl, trivial⟩) ?_
    refine qe rfl ?_
    refine zai _ rfl (fun h15 => ?_) (fun h15 => ?_)
    ·replace H := ift h15 H
     refine zab hN rfl ?_
     refine qd rfl ?_
     obtain ⟨r16, h17, H⟩ := bnd H
     refine zcv (rn [(0, 1), (1, 2), (900, 4)]) [(0, _, _, some _), (1, _, _, none)] [(900, _)] (zcu l2 (x6.toNat : Int) r16 h17) ⟨rfl, rfl, rfl, trivial⟩ ⟨.inl (.inl rfl), .inl (.inl rfl), trivial⟩ ⟨⟨⟨rfl, rfl⟩, trivial⟩, ⟨⟨rfl, rfl, rfl⟩, trivial⟩, trivial⟩ rfl ?_
     refine zlk ?_
     show Cv _ _ _ _
     refine zl7 (rn [(4, 6)]) [(0, .dat (vstr s1)), (3, .ptr 1 0), (7, .dat (vint (s1.length : Int))), (8, .dat (vint (k3 : Int)))] [(1, .box none 92 [.nptr 1, .row 4 r16.2.length]), (4, .row 5 1 (List.map zcj r16.2))] ⟨rfl, rfl, rfl, rfl, trivial⟩ ⟨rfl, rfl, trivial⟩ rfl rfl ?_
     exact ⟨r16.2, H, ⟨rfl, rfl, rfl, rfl, trivial⟩, ⟨rfl, rfl, trivial⟩⟩
    ·replace H := iff_ h15 H
     refine zab hN rfl ?_
     refine qd rfl ?_
     obtain ⟨r18, h19, H⟩ := bnd H
     refine zaa (zak (zo8 (x6.toNat : Int) r18 h19) ⟨.inl rfl, trivial⟩) ?_
     obtain ⟨r20, h21, H⟩ := bnd H
     refine zcv (rn [(0, 1), (1, 2), (900, 5)]) [(0, _, _, some _), (1, _, _, none)] [(900, _)] (zkt l2 r18 r20 h21) ⟨rfl, rfl, rfl, trivial⟩ ⟨.inl (.inl rfl), .inl (.inl rfl), trivial⟩ ⟨⟨⟨rfl, rfl⟩, trivial⟩, ⟨⟨rfl, rfl, rfl⟩, trivial⟩, trivial⟩ rfl ?_
     refine zlk ?_
     show Cv _ _ _ _
     refine zl7 (rn [(5, 6)]) [(0, .dat (vstr s1)), (3, .ptr 1 0), (7, .dat (vint (s1.length : Int))), (8, .dat (vint (k3 : Int)))] [(1, .box none 92 [.nptr 1, .row 5 r20.2.2.length]), (5, .row 5 1 (List.map zcj r20.2.2))] ⟨rfl, rfl, rfl, rfl, trivial⟩ ⟨rfl, rfl, trivial⟩ rfl rfl ?_
     exact ⟨r20.2.2, H, ⟨rfl, rfl, rfl, rfl, trivial⟩, ⟨rfl, rfl, trivial⟩⟩
  ·rintro l22 H
   replace H : zfy l22 = some q4 := H
   unfold zfy at H
   refine zab hN rfl ?_
   refine zaa (zfc rfl rfl (by omega)) ?_
   refine qd rfl ?_
   refine zlk ?_
   show Cv _ _ _ _
   refine zl7 (rn [(6, 2)]) [(0, .dat (vstr s1)), (3, .ptr 1 0), (7, .dat (vint (s1.length : Int))), (8, .dat (vint ((k3 : Int) + 1)))] [(1, .box none 92 [.nptr 1, .row 6 l22.length]), (6, .row 5 1 (List.map zcj l22))] ⟨rfl, rfl, rfl, rfl, trivial⟩ ⟨rfl, rfl, trivial⟩ rfl rfl ?_
   exact ⟨_, zio H, ⟨rfl, rfl, rfl, rfl, trivial⟩, ⟨rfl, rfl, trivial⟩⟩
theorem zrr (l1 : (List zag)) (r : (Bs × Int)) (H : zfi l1 = some r) : Fn Tryz.prog 44 [vlst (List.map za1 l1)] (zbe [vstr r.1, vint r.2]) := by
 refine ⟨by kernel_rfl, za7 (us := [vstr r.1, vint r.2]) Tryz.func44 rfl rfl rfl rfl fun X hN => ?_⟩
 unfold zfi at H
 refine zac ?_
 refine zab hN rfl ?_
 refine qe rfl ?_
 refine qe rfl ?_
 refine zac ?_
 refine zac ?_
 refine zab hN rfl ?_
 refine qd rfl ?_
 refine zaa (zks ztr rfl) ?_
 refine zaa (zg1 rfl rfl) ?_
 refine zai _ rfl (fun h2 => ?_) (fun h2 => ?_)
 ·replace H := ift h2 H
  refine zac ?_
  refine zab hN rfl ?_
  refine qe rfl ?_
  refine qe rfl ?_
  refine zap ?_
  cases H
  exact ⟨trivial, .inl rfl, .inl rfl, trivial⟩
 ·replace H := iff_ h2 H
  refine zan ?_
  refine zac ?_
  refine zab hN rfl ?_
  refine qe rfl ?_
  refine zac ?_
  refine zac ?_
  refine zab hN rfl ?_
  refine qd rfl ?_
  refine zaa (zks ztr rfl) ?_
  refine qd rfl ?_
  refine zat ?_
  refine zeh 4 1 9 1 rfl rfl rfl ?_
  obtain ⟨h6, H⟩ := gif H
  refine zed (fun (k4 : Nat) (s : (List Bs)) => [(4, .row 1 s.length), (11, .dat (vlst (List.map za1 l1))), (12, .dat (vint (l1.length : Int))), (13, .dat (vint (k4 : Int)))]) (fun (k4 : Nat) (s : (List Bs)) => [(1, .row 9 1 (List.map zay s))]) [] H ⟨rfl, rfl, rfl, rfl, trivial⟩ ⟨rfl, trivial⟩ (fun _ _ => rfl) ?_ ?_
  ·rintro l3 H
   replace H : zj9 l3 = some r := H
   unfold zj9 at H
   refine zac ?_
   refine zab hN rfl ?_
   refine zaa (za3 rfl rfl) ?_
   refine zac ?_
   refine zai _ rfl (fun h => (lt_t h).elim) (fun h => ?_)
   refine zbp ?_
   refine zac ?_
   refine zom 4 1 rfl rfl rfl ?_
   refine zab hN rfl ?_
   refine qd rfl ?_
   obtain ⟨r8, h9, H⟩ := bnd H
   refine zaa (zak (zl3 l3 [38] r8 h9) ⟨.inl rfl, .inl rfl, trivial⟩) ?_
   refine qe rfl ?_
   refine zac ?_
   refine zac ?_
   refine zab hN rfl ?_
   refine qd rfl ?_
   refine zaa (za5 tyU9 rfl) ?_
   refine zaa (zg1 rfl rfl) ?_
   refine zai _ rfl (fun h10 => ?_) (fun h10 => ?_)
   ·replace H := ift h10 H
    refine zac ?_
    refine zab hN rfl ?_
    refine qe rfl ?_
    refine qe rfl ?_
    refine zap ?_
    cases H
    exact ⟨trivial, .inl rfl, .inl rfl, trivial⟩
   ·replace H := iff_ h10 H
    refine zan ?_
    refine zac ?_
    refine zab hN rfl ?_
    refine qd rfl ?_
    refine qe rfl ?_
    refine qe rfl ?_
    refine zap ?_
    cases H
    exact ⟨trivial, .inl rfl, .inl rfl, trivial⟩
  ·rintro k4 x7 l3 q5 h11 h12 H hq5
   replace H : zi6 k4 x7 l3 = some q5 := H
   unfold zi6 at H
   refine zac ?_
   refine zab hN rfl ?_
   refine zaa (za3 rfl rfl) ?_
   refine zac ?_
   refine zai _ rfl (fun h => ?_) (fun h => (lt_f h11 h).elim)
   refine zan ?_
   refine zac ?_
   refine zat ?_
   refine zac ?_
   refine zab hN rfl ?_
   refine zaa (zn2 zsh (fun _ => rfl) rfl rfl h12) ?_
   refine zaa (zip zp5 rfl (zjk h12) rfl) ?_
   refine zal (zdf 2 zwq rfl) rfl ?_
   refine zal (zb9 zp5 rfl rfl rfl rfl) rfl ?_
   refine zac ?_
   refine zac ?_
   refine zab hN rfl ?_
   refine zau (zf6 zp5 rfl rfl rfl) rfl ?_
   refine zaa (za4 (u' := vagg (za1 (zag.mk [] []))) (zd5 [] zwq z3j rfl trivial) rfl) ?_
   refine zaa (zy8 [_, _] [_, _] z73 rfl rfl rfl) ?_
   refine zai _ rfl (fun h13 => ?_) (fun h13 => ?_)
   ·replace H := ift h13 H
    refine zac ?_
    refine zab hN rfl ?_
    refine qe rfl ?_
    refine qe rfl ?_
    refine zap ?_
    replace H := retl H hq5
    cases H
    exact ⟨trivial, .inl rfl, .inl rfl, trivial⟩
   ·replace H := iff_ h13 H
    refine zan ?_
    refine zik mixed hN rfl rfl ?_
    refine zaa (zah (.row _ _) rfl) ?_
    refine zaa (zaw zno rfl) ?_
    refine zau (zav tyS9 rfl rfl) rfl ?_
    obtain ⟨r14, h15, H⟩ := bnd H
    refine zaa (zak (zoe x7.Name r14 h15) ⟨.inl rfl, trivial⟩) ?_
    obtain ⟨h16, H⟩ := gif H
    refine zaa (zht rfl rfl (Nat.le_trans h16 (by decide))) ?_
    refine zaa (zaw zqf rfl) ?_
    refine zau (zav tyS9 rfl rfl) rfl ?_
    obtain ⟨r17, h18, H⟩ := bnd H
    refine zaa (zak (zoe x7.Value r17 h18) ⟨.inl rfl, trivial⟩) ?_
    obtain ⟨h19, H⟩ := gif H
    refine zaa (zht rfl rfl (Nat.le_trans h19 (by decide))) ?_
    refine zaa (za4 (u' := vlst (List.map zay [((r14 ++ [61]) ++ r17)])) (zcl [[_]] zlg ⟨rfl, .inl ⟨_, rfl, rfl, rfl⟩, rfl, trivial⟩ rfl rfl) rfl) ?_
    obtain ⟨h20, H⟩ := gif H
    refine zal (zm1 zlg (fun _ => rfl) rfl rfl rfl ⟨by simp, by first | (simp; done) | simpa using h20⟩ rfl) rfl ?_
    refine zaa (zbb (.row _ _) rfl) ?_
    refine ⟨rfl, ?_⟩
    refine zab hN rfl ?_
    refine zaa (zfc rfl rfl (by omega)) ?_
    refine qd rfl ?_
    exact ⟨_, zio H, ⟨rfl, rfl, rfl, rfl, trivial⟩, ⟨rfl, trivial⟩⟩
theorem zo6 (s : Bs) (r : Bs) (H : zjd s = some r) : Fn Tryz.prog 45 [vstr s] (zbe [vstr r]) := by
 unfold zjd at H
 obtain ⟨⟨h1, h2⟩, h3⟩ := gif H
 cases h3
 refine zin (by kernel_rfl) fun M w vs hM h => ?_
 have hv := zl1 (us := [.string ⟨s.toArray⟩]) h
 subst hv
 refine (Tryz.strings_ToUpper_ascii ⟨s.toArray⟩ w (by simp [ByteArray.size]; omega) (fun j b hb => zsz h2 j b (by simpa using hb))).mono ?_
 rintro e w' ⟨rfl, hb⟩
 exact ⟨_, rfl, rfl, Kp.of_below hb⟩

theorem zcc (l r : List zaf) (H : zee l = some r) : FnG Tryz.prog 46 [.dat (vlst (List.map zao l))] [] (.row 900 r.length) [(900, .row 52 2 (List.map zao r))] := by
 obtain ⟨hl, rfl⟩ := z0m H
 refine zpe (by kernel_rfl) Tryz.func46 rfl rfl rfl rfl fun X A hN => ?_
 refine zyu 0 rfl (fun h0 => ?_) ?_
 ·obtain rfl := List.map_eq_nil_iff.1 h0
  refine zac ?_
  refine zab hN rfl ?_
  refine qe rfl ?_
  refine zac ?_
  refine zac ?_
  refine zab hN rfl ?_
  refine qd rfl ?_
  refine zaa (zx0 zpi rfl) ?_
  refine zai _ rfl (fun h => ?_) (fun h => by cases h)
  refine zac ?_
  refine zab hN rfl ?_
  refine qe rfl ?_
  refine zeh 2 900 52 2 rfl rfl rfl ?_
  refine zap ?_
  exact ⟨trivial, [(2, .row 900 0)], ⟨rfl, trivial⟩, ⟨rfl, trivial⟩, rfl, .inr (.inl ⟨2, rfl, rfl⟩)⟩
 ·refine zac ?_
  refine zab hN rfl ?_
  refine qe rfl ?_
  refine zac ?_
  refine zac ?_
  refine zab hN rfl ?_
  refine qd rfl ?_
  refine zaa (zx1 zpi rfl) ?_
  refine zai _ rfl (fun h => by cases h) (fun h => ?_)
  refine zan ?_
  refine zac ?_
  refine z8s 0 (u' := vlst (List.map zao l)) rfl z8z ?_
  refine zab hN rfl ?_
  refine zal (z3v 900 zob) rfl ?_
  refine qd rfl ?_
  refine zal (z5n (C := zao) (xs := []) zob (fun _ => rfl) rfl rfl rfl (by simpa using hl) rfl) rfl ?_
  refine zaa (zbb (.row _ _) rfl) ?_
  refine zap ?_
  exact ⟨trivial, [(2, .row 900 l.length)], ⟨rfl, trivial⟩, ⟨rfl, trivial⟩, rfl, .inr (.inl ⟨2, rfl, rfl⟩)⟩
theorem zte (v1 : zar) (r : (zar × Int)) (H : zk4 v1 = some r) : Fn Tryz.prog 8 [vagg (za9 v1)] (zbe [vagg (za9 r.1), vint r.2]) := by
 refine ⟨by kernel_rfl, za7 (us := [vagg (za9 r.1), vint r.2]) Tryz.func8 rfl rfl rfl rfl fun X hN => ?_⟩
 unfold zk4 at H
 refine zac ?_
 refine zab hN rfl ?_
 refine zal (zju 1 rfl) rfl ?_
 refine zal (zdf 2 zph rfl) rfl ?_
 refine qe rfl ?_
 refine zac ?_
 refine zac ?_
 refine zab hN rfl ?_
 refine zau (zf6 zkd rfl rfl rfl) rfl ?_
 obtain ⟨r2, h3, H⟩ := bnd H
 refine zaa (zak (zp9 v1 r2 h3) ⟨.inl rfl, trivial⟩) ?_
 refine qe rfl ?_
 refine zac ?_
 refine zab hN rfl ?_
 refine qd rfl ?_
 refine zaa (zfw rfl rfl) ?_
 refine zai _ rfl (fun h4 => ?_) (fun h4 => ?_)
 ·replace H := ift h4 H
  refine zac ?_
  refine zab hN rfl ?_
  refine zaa (zs3 (u' := vagg (za9 (zar.mk 0 [] [] [] [] [] [] []))) (zs2 (by exact ⟨zdn, zdn, zdn, zdn, zdn, zdn, zre, zdn, trivial⟩)) (zd5 [] zph zvk rfl trivial)) ?_
  refine qd rfl ?_
  refine zal (zb9 zkd rfl rfl rfl rfl) rfl ?_
  refine qe rfl ?_
  refine zap ?_
  cases H
  exact ⟨trivial, .inl ⟨_, _, _, za9 (zar.mk 0 [] [] [] [] [] [] []), rfl, rfl, rfl, rfl, zkd⟩, .inl rfl, trivial⟩
 ·replace H := iff_ h4 H
  refine zan ?_
  refine zac ?_
  refine zab hN rfl ?_
  refine zaa (zaw zpl rfl) ?_
  refine zau (zav tyS9 rfl rfl) rfl ?_
  obtain ⟨r5, h6, H⟩ := bnd H
  refine zaa (zak (zrb v1.Host r5 h6) ⟨.inl rfl, trivial⟩) ?_
  refine qd rfl ?_
  refine zaa (zbj rfl rfl) ?_
  refine zaa (zbj rfl rfl) ?_
  refine qe rfl ?_
  refine qe rfl ?_
  refine zac ?_
  refine zab hN rfl ?_
  refine zaa (zaw zpk rfl) ?_
  refine zau (zav tyS9 rfl rfl) rfl ?_
  obtain ⟨r7, h8, H⟩ := bnd H
  refine zaa (zak (zny v1.Path r7 h8) ⟨.inl rfl, trivial⟩) ?_
  refine qd rfl ?_
  refine zaa (zbj rfl rfl) ?_
  refine zaa (zbj rfl rfl) ?_
  refine qe rfl ?_
  refine qe rfl ?_
  refine zac ?_
  refine zac ?_
  refine zab hN rfl ?_
  refine qd rfl ?_
  refine zaa (zfw rfl rfl) ?_
  refine zai _ rfl (fun h9 => ?_) (fun h9 => ?_)
  ·replace H := ift h9 H
   refine zac ?_
   refine zab hN rfl ?_
   refine zaa (zs3 (u' := vagg (za9 (zar.mk 0 [] [] [] [] [] [] []))) (zs2 (by exact ⟨zdn, zdn, zdn, zdn, zdn, zdn, zre, zdn, trivial⟩)) (zd5 [] zph zvk rfl trivial)) ?_
   refine qd rfl ?_
   refine zal (zb9 zkd rfl rfl rfl rfl) rfl ?_
   refine qe rfl ?_
   refine zap ?_
   cases H
   exact ⟨trivial, .inl ⟨_, _, _, za9 (zar.mk 0 [] [] [] [] [] [] []), rfl, rfl, rfl, rfl, zkd⟩, .inl rfl, trivial⟩
  ·replace H := iff_ h9 H
   refine zan ?_
   refine zac ?_
   refine zab hN rfl ?_
   refine zaa (zaw zpj rfl) ?_
   refine zau (zav tyS9 rfl rfl) rfl ?_
   obtain ⟨r10, h11, H⟩ := bnd H
   refine zcv (rn [(900, 3)]) [] [(900, _)] (zqp v1.Query r10 h11) ⟨rfl, trivial⟩ ⟨.inl (.inl rfl), trivial⟩ trivial rfl ?_
   refine zaa (zah (.comp _ _) rfl) ?_
   refine zaa (ztk rfl rfl) ?_
   refine zaa (ztk rfl rfl) ?_
   refine zaa (zbb (.row _ _) rfl) ?_
   refine qe rfl ?_
   refine zac ?_
   refine zac ?_
   refine zab hN rfl ?_
   refine qd rfl ?_
   refine zaa (zfw rfl rfl) ?_
   refine zai _ rfl (fun h12 => ?_) (fun h12 => ?_)
   ·replace H := ift h12 H
    refine zac ?_
    refine zab hN rfl ?_
    refine zaa (zs3 (u' := vagg (za9 (zar.mk 0 [] [] [] [] [] [] []))) (zs2 (by exact ⟨zdn, zdn, zdn, zdn, zdn, zdn, zre, zdn, trivial⟩)) (zd5 [] zph zvk rfl trivial)) ?_
    refine qd rfl ?_
    refine zal (zb9 zkd rfl rfl rfl rfl) rfl ?_
    refine qe rfl ?_
    refine zap ?_
    cases H
    exact ⟨trivial, .inl ⟨_, _, _, za9 (zar.mk 0 [] [] [] [] [] [] []), rfl, rfl, rfl, rfl, zkd⟩, .inl rfl, trivial⟩
   ·replace H := iff_ h12 H
    refine zan ?_
    refine zac ?_
    refine zab hN rfl ?_
    refine zaa (zah (.row _ _) rfl) ?_
    obtain ⟨r13, h14, H⟩ := bnd H
    refine zcv (rn [(0, 3), (900, 4)]) [(0, _, _, none)] [(900, _)] (zhy r10.1 (fun (a0 : zag) => zj2 a0) 41 [] (fun a0 r h => zr6 a0 r h) r13 h14) ⟨rfl, rfl, trivial⟩ ⟨.inl (.inl rfl), .inr ⟨_, rfl, rfl⟩, trivial⟩ ⟨⟨⟨rfl, rfl, rfl⟩, trivial⟩, trivial⟩ rfl ?_
    refine zaa (zbb (.row _ _) rfl) ?_
    refine zac ?_
    refine zab hN rfl ?_
    refine zaa (zah (.row _ _) rfl) ?_
    obtain ⟨r15, h16, H⟩ := bnd H
    obtain ⟨h17, H⟩ := gif H
    refine zcv (rn [(0, 4)]) [(0, _, _, some _)] [] (zlm r13 (fun (a0 : zag) (a1 : zag) => zbz a0 a1) 43 [] (fun a0 a1 r h => zp8 a0 a1 r h) r15 h16) ⟨rfl, trivial⟩ ⟨.inl (.inl rfl), .inr ⟨_, rfl, rfl⟩, trivial⟩ ⟨⟨⟨rfl, rfl, rfl⟩, by simp [zt3, h17]⟩, trivial⟩ rfl ?_
    refine zac ?_
    refine zom 9 4 rfl rfl (h17).symm ?_
    refine zab hN rfl ?_
    refine qd rfl ?_
    obtain ⟨r18, h19, H⟩ := bnd H
    refine zaa (zak (zrr r15 r18 h19) ⟨.inl rfl, trivial⟩) ?_
    refine qd rfl ?_
    refine zaa (zbj rfl rfl) ?_
    refine zaa (zbj rfl rfl) ?_
    refine qe rfl ?_
    refine qe rfl ?_
    refine zac ?_
    refine zac ?_
    refine zab hN rfl ?_
    refine qd rfl ?_
    refine zaa (zfw rfl rfl) ?_
    refine zai _ rfl (fun h20 => ?_) (fun h20 => ?_)
    ·replace H := ift h20 H
     refine zac ?_
     refine zab hN rfl ?_
     refine zaa (zs3 (u' := vagg (za9 (zar.mk 0 [] [] [] [] [] [] []))) (zs2 (by exact ⟨zdn, zdn, zdn, zdn, zdn, zdn, zre, zdn, trivial⟩)) (zd5 [] zph zvk rfl trivial)) ?_
     refine qd rfl ?_
     refine zal (zb9 zkd rfl rfl rfl rfl) rfl ?_
     refine qe rfl ?_
     refine zap ?_
     cases H
     exact ⟨trivial, .inl ⟨_, _, _, za9 (zar.mk 0 [] [] [] [] [] [] []), rfl, rfl, rfl, rfl, zkd⟩, .inl rfl, trivial⟩
    ·replace H := iff_ h20 H
     refine zan ?_
     refine zac ?_
     refine zab hN rfl ?_
     refine qd rfl ?_
     refine qd rfl ?_
     refine qd rfl ?_
     refine zaa (zaw zpm rfl) ?_
     refine zau (zav tyS9 rfl rfl) rfl ?_
     obtain ⟨r21, h22, H⟩ := bnd H
     refine zaa (zak (zo6 v1.Method r21 h22) ⟨.inl rfl, trivial⟩) ?_
     refine zaa (zaw zpl rfl) ?_
     refine zal (zdr tyS9 rfl rfl rfl rfl) rfl ?_
     refine zaa (zaw zpk rfl) ?_
     refine zal (zdr tyS9 rfl rfl rfl rfl) rfl ?_
     refine zaa (zaw zpj rfl) ?_
     refine zal (zdr tyS9 rfl rfl rfl rfl) rfl ?_
     refine zaa (zaw zpm rfl) ?_
     refine zal (zdr tyS9 rfl rfl rfl rfl) rfl ?_
     refine zac ?_
     refine zab hN rfl ?_
     refine zaa (zaw zm0 rfl) ?_
     refine zau (zav zsf rfl rfl) rfl ?_
     obtain ⟨r23, h24, H⟩ := bnd H
     refine zcv (rn [(900, 5)]) [] [(900, _)] (zcc v1.Headers r23 h24) ⟨rfl, trivial⟩ ⟨.inl (.inl rfl), trivial⟩ trivial rfl ?_
     refine zaa (zaw zm0 rfl) ?_
     refine zq3 (zn8 zsf rfl rfl (by rw [List.length_map]) rfl) rfl rfl ?_
     refine zac ?_
     refine zac ?_
     refine zab hN rfl ?_
     refine zaa (zaw zm0 rfl) ?_
     refine zau (zav zsf rfl rfl) rfl ?_
     refine zau (zu2 zpi rfl rfl) rfl ?_
     refine qd rfl ?_
     refine zat ?_
     obtain ⟨h28, H⟩ := gif H
     refine zup (fun (k26 : Nat) (s : (List zaf)) => [(1, .ptr 1 0), (2, .ptr 2 0), (73, .row 5 s.length), (74, .dat (vint (r23.length : Int))), (75, .dat (vint (k26 : Int)))]) (fun (k26 : Nat) (s : (List zaf)) => [(1, .box none 28 [.dat (vint v1.At), .dat (vstr r21), .dat (vstr r5.1), .dat (vstr r7.1), .dat (vstr r18.1), .dat (vstr v1.From), .row 5 s.length, .dat (vstr v1.Body)]), (2, .box none 28 [.dat (vint 0), .dat (vstr []), .dat (vstr []), .dat (vstr []), .dat (vstr []), .dat (vstr []), .dat (vnil), .dat (vstr [])]), (5, .row 52 2 (List.map zao s))]) r23 H ⟨rfl, rfl, rfl, rfl, rfl, trivial⟩ ⟨rfl, rfl, rfl, trivial⟩ (fun _ _ => rfl) ?_ ?_
     ·rintro l25 H
      replace H : zlu v1 r5 r7 r18 r21 l25 = some r := H
      unfold zlu at H
      refine zac ?_
      refine zab hN rfl ?_
      refine zaa (za3 rfl rfl) ?_
      refine zac ?_
      refine zai _ rfl (fun h => (lt_t h).elim) (fun h => ?_)
      refine zbp ?_
      refine zac ?_
      refine zzw 1 6 5 rfl rfl rfl (by rw [List.length_map]) ?_
      refine zab hN rfl ?_
      refine zau (zf6 zkd rfl rfl rfl) rfl ?_
      refine zal (zb9 zkd rfl rfl rfl rfl) rfl ?_
      refine qe rfl ?_
      refine zap ?_
      cases H
      exact ⟨trivial, .inl ⟨_, _, _, za9 (zar.mk v1.At r21 r5.1 r7.1 r18.1 v1.From l25 v1.Body), rfl, rfl, rfl, rfl, zkd⟩, .inl rfl, trivial⟩
     ·rintro k26 l25 q27 h29 H hq27
      replace H : zh3 k26 l25 = some q27 := H
      unfold zh3 at H
      refine zn1 ?_
      refine zac ?_
      refine zab hN rfl ?_
      refine zaa (za3 rfl rfl) ?_
      refine zac ?_
      refine zai _ rfl (fun h => ?_) (fun h => (lt_f h29 h).elim)
      refine zan ?_
      refine zac ?_
      refine zat ?_
      refine zac ?_
      refine zab hN rfl ?_
      refine qd rfl ?_
      obtain ⟨x30, h31, H⟩ := bnd H
      refine zau (z5l zp6 rfl rfl rfl h31) rfl ?_
      refine zau (zvo zng rfl rfl h31 rfl) rfl ?_
      refine zal (zdf 6 zp4 rfl) rfl ?_
      refine qe rfl ?_
      refine zal (zb9 zng rfl rfl rfl rfl) rfl ?_
      refine zik mixed hN rfl rfl ?_
      refine zaa (zaw zm0 rfl) ?_
      refine zau (zav zsf rfl rfl) rfl ?_
      refine qd rfl ?_
      refine zaa (zaw zoc rfl) ?_
      refine zau (zav tyS9 rfl rfl) rfl ?_
      obtain ⟨r32, h33, H⟩ := bnd H
      refine zaa (zak (zjg x30.Name r32 h33) ⟨.inl rfl, trivial⟩) ?_
      refine zau (z5l zp6 rfl rfl rfl h31) rfl ?_
      refine zaa (z3z zoc rfl) ?_
      refine zal (z3o (zaf.mk r32 x30.Value) tyS9 rfl rfl rfl rfl h31 rfl rfl) rfl ?_
      refine ⟨rfl, ?_⟩
      refine zab hN rfl ?_
      refine zaa (zfc rfl rfl (by omega)) ?_
      refine qd rfl ?_
      refine zlk ?_
      show Cv _ _ _ _
      refine zsx ?_
      exact ⟨_, zio H, ⟨rfl, rfl, congrArg (Slot.row 5) (by simp), rfl, rfl, trivial⟩, ⟨(congrArg (fun n => some (some (AObj.box none 28 [.dat (vint v1.At), .dat (vstr r21), .dat (vstr r5.1), .dat (vstr r7.1), .dat (vstr r18.1), .dat (vstr v1.From), .row 5 n, .dat (vstr v1.Body)]))) (show l25.length = ((l25.set k26 (zaf.mk r32 x30.Value))).length from (by simp))), rfl, rfl, trivial⟩⟩
theorem zmu (n1 : Int) (low2 : Int) (high3 : Int) (r : (Bool)) (H : zg8 n1 low2 high3 = some r) : Fn Tryz.prog 62 [vint n1, vint low2, vint high3] (zbe [za2 r]) := by
 refine ⟨by kernel_rfl, za7 (us := [za2 r]) Tryz.func62 rfl rfl rfl rfl fun X hN => ?_⟩
 unfold zg8 at H
 refine zac ?_
 refine zab hN rfl ?_
 refine qe rfl ?_
 refine zac ?_
 refine zab hN rfl ?_
 refine qd rfl ?_
 refine qd rfl ?_
 refine zaa (zhp rfl rfl) ?_
 refine qd rfl ?_
 refine zig rfl rfl (fun hc => zah (.dat _) rfl) ?_
 refine zig rfl rfl (fun hc => zah (.dat _) rfl) ?_
 refine zig rfl rfl (fun hc => zhp (cnd (c := (decide (low2 ≤ n1))) hc) (cnd (c := (decide (low2 ≤ n1))) hc)) ?_
 refine zaa (zco rfl (fun hb => (cnd (c := (decide (low2 ≤ n1))) hb)) rfl) ?_
 refine qe rfl ?_
 refine zap ?_
 cases H
 exact ⟨trivial, .inl rfl, trivial⟩
theorem zss (v1 : Int) (r : (Bool)) (H : zlw v1 = some r) : Fn Tryz.prog 101 [vint v1] (zbe [za2 r]) := by
 refine ⟨by kernel_rfl, za7 (us := [za2 r]) Tryz.func101 rfl rfl rfl rfl fun X hN => ?_⟩
 unfold zlw at H
 refine zac ?_
 refine zab hN rfl ?_
 refine qe rfl ?_
 refine zac ?_
 refine zab hN rfl ?_
 refine qd rfl ?_
 obtain ⟨r2, h3, H⟩ := bnd H
 refine zaa (zak (zmu v1 0 345686399999 r2 h3) ⟨.inl rfl, .inl rfl, .inl rfl, trivial⟩) ?_
 refine qe rfl ?_
 refine zap ?_
 cases H
 exact ⟨trivial, .inl rfl, trivial⟩
theorem zmt (s1 : Bs) (some2 : Bs) (r : (Bool)) (H : zf7 s1 some2 = some r) : Fn Tryz.prog 63 [vstr s1, vstr some2] (zbe [za2 r]) := by
 refine ⟨by kernel_rfl, za7 (us := [za2 r]) Tryz.func63 rfl rfl rfl rfl fun X hN => ?_⟩
 unfold zf7 at H
 refine zac ?_
 refine zab hN rfl ?_
 refine qe rfl ?_
 refine zac ?_
 refine zac ?_
 refine zab hN rfl ?_
 refine qd rfl ?_
 refine zaa (za5 tyU9 rfl) ?_
 refine qd rfl ?_
 refine zat ?_
 obtain ⟨h5, H⟩ := gif H
 refine zed (fun (k3 : Nat) (s : Unit) => [(0, .dat (vstr s1)), (1, .dat (vstr some2)), (7, .dat (vint (s1.length : Int))), (8, .dat (vint (k3 : Int)))]) (fun (k3 : Nat) (s : Unit) => []) () H ⟨rfl, rfl, rfl, rfl, trivial⟩ trivial (fun _ _ => rfl) ?_ ?_
 ·rintro ⟨⟩ H
  replace H : znu = some r := H
  unfold znu at H
  refine zac ?_
  refine zab hN rfl ?_
  refine zaa (za3 rfl rfl) ?_
  refine zac ?_
  refine zai _ rfl (fun h => (lt_t h).elim) (fun h => ?_)
  refine zbp ?_
  refine zac ?_
  refine zab hN rfl ?_
  refine qe rfl ?_
  refine zap ?_
  cases H
  exact ⟨trivial, .inl rfl, trivial⟩
 ·rintro k3 x6 ⟨⟩ q4 h7 h8 H hq4
  replace H : zma some2 k3 x6 = some q4 := H
  unfold zma at H
  refine zac ?_
  refine zab hN rfl ?_
  refine zaa (za3 rfl rfl) ?_
  refine zac ?_
  refine zai _ rfl (fun h => ?_) (fun h => (lt_f h7 h).elim)
  refine zan ?_
  refine zac ?_
  refine zat ?_
  refine zac ?_
  refine zab hN rfl ?_
  refine qd rfl ?_
  refine qe rfl ?_
  refine zac ?_
  refine zab hN rfl ?_
  refine qd rfl ?_
  refine qd rfl ?_
  refine qd rfl ?_
  refine zaa (zgg tyU9 rfl rfl h8) ?_
  obtain ⟨r9, h10, H⟩ := bnd H
  refine zaa (zak (zkx some2 (x6.toNat : Int) r9 h10) ⟨.inl rfl, .inl rfl, trivial⟩) ?_
  refine zaa (za3 rfl rfl) ?_
  refine zai _ rfl (fun h11 => ?_) (fun h11 => ?_)
  ·replace H := ift h11 H
   refine zac ?_
   refine zab hN rfl ?_
   refine qe rfl ?_
   refine zap ?_
   replace H := retl H hq4
   cases H
   exact ⟨trivial, .inl rfl, trivial⟩
  ·replace H := iff_ h11 H
   refine zan ?_
   refine zab hN rfl ?_
   refine zaa (zfc rfl rfl (by omega)) ?_
   refine qd rfl ?_
   exact ⟨_, zio H, ⟨rfl, rfl, rfl, rfl, trivial⟩, trivial⟩
theorem znr (s1 : Bs) (r : (Bool)) (H : zi3 s1 = some r) : Fn Tryz.prog 17 [vstr s1] (zbe [za2 r]) := by
 refine ⟨by kernel_rfl, za7 (us := [za2 r]) Tryz.func17 rfl rfl rfl rfl fun X hN => ?_⟩
 unfold zi3 at H
 refine zac ?_
 refine zab hN rfl ?_
 refine qe rfl ?_
 refine zax (ι := Bool) (fun i => [(2, .dat (za2 i))]) (fun i => []) (fun i => zjh i = some r) (fun i => rfl) ?_ ?_
 ·skip
  refine zab hN rfl ?_
  refine qd rfl ?_
  refine zaa (za5 tyU9 rfl) ?_
  obtain ⟨r2, h3, H⟩ := bnd H
  refine zaa (zak (zmu (s1.length : Int) 1 100 r2 h3) ⟨.inl rfl, .inl rfl, .inl rfl, trivial⟩) ?_
  refine qd rfl ?_
  refine zaz (j := 3) rfl rfl (fun h4 => ?_) (fun h4 => ?_) rfl
  ·have h5 := un1 h4
   replace H := ift h5 H
   refine zam rfl rfl h4 (zah (.dat _) rfl) ?_
   obtain ⟨r6, h7, H⟩ := bnd H
   refine zam rfl rfl h4 (zak (zmt s1 [97, 98, 99, 100, 101, 102, 103, 104, 105, 106, 107, 108, 109, 110, 111, 112, 113, 114, 115, 116, 117, 118, 119, 120, 121, 122, 65, 66, 67, 68, 69, 70, 71, 72, 73, 74, 75, 76, 77, 78, 79, 80, 81, 82, 83, 84, 85, 86, 87, 88, 89, 90, 48, 49, 50, 51, 52, 53, 54, 55, 56, 57, 33, 35, 36, 37, 38, 39, 42, 43, 45, 46, 94, 95, 96, 124, 126] r6 h7) ⟨.inl rfl, .inl rfl, trivial⟩) ?_
   refine zaa (zas rfl (bTT h5) rfl) ?_
   refine qe rfl ?_
   exact ⟨r6, H, ⟨rfl, trivial⟩, trivial⟩
  ·have h8 := un2 h4
   replace H := iff_ h8 H
   refine zae rfl rfl h4 ?_
   refine zae rfl rfl h4 ?_
   refine zaa (zaj rfl (bFF h8) rfl) ?_
   refine qe rfl ?_
   exact ⟨false, H, ⟨rfl, trivial⟩, trivial⟩
 ·rintro v9 H
  replace H : zjh v9 = some r := H
  unfold zjh at H
  refine zap ?_
  cases H
  exact ⟨trivial, .inl rfl, trivial⟩
theorem zuw (n : Int) (r : Bs) (H : zrg n = some r) : Fn Tryz.prog 159 [vint n] (zbe [vstr r]) := by
 obtain ⟨⟨h1, h2⟩, h3⟩ := gif H
 cases h3
 refine zin (by kernel_rfl) fun M w vs hM h => ?_
 have hv := zl1 (us := [.int .i64 n]) h
 subst hv
 refine (Tryz.strconv_Itoa n h1 h2 w (z1u hM)).mono ?_
 rintro e w' ⟨rfl, k, os, rfl⟩
 exact ⟨_, rfl, rfl, Kp.of_below ⟨rfl, rfl, rfl, by show w.heap.size ≤ (w.heap ++ os).size; rw [Array.size_append]; omega, fun j hj => by show (w.heap ++ os)[j]? = w.heap[j]?; exact Array.getElem?_append_left hj⟩⟩
theorem zsr (s1 : Bs) (most2 : Int) (r : (Int × Bool)) (H : zlv s1 most2 = some r) : Fn Tryz.prog 104 [vstr s1, vint most2] (zbe [vint r.1, za2 r.2]) := by
 refine ⟨by kernel_rfl, za7 (us := [vint r.1, za2 r.2]) Tryz.func104 rfl rfl rfl rfl fun X hN => ?_⟩
 unfold zlv at H
 refine zac ?_
 refine zab hN rfl ?_
 refine qe rfl ?_
 refine qe rfl ?_
 refine zac ?_
 refine zab hN rfl ?_
 refine qd rfl ?_
 obtain ⟨r3, h4, H⟩ := bnd H
 refine zaa (zak (znw s1 [45] r3 h4) ⟨.inl rfl, .inl rfl, trivial⟩) ?_
 refine qe rfl ?_
 refine zac ?_
 refine zax (ι := Bool) (fun i => [(0, .dat (vstr s1)), (23, .dat (za2 i))]) (fun i => []) (fun i => ziw s1 i = some r) (fun i => rfl) ?_ ?_
 ·skip
  refine zab hN rfl ?_
  refine qd rfl ?_
  refine zaa (zdw rfl rfl) ?_
  refine qd rfl ?_
  refine zaz (j := 2) rfl rfl (fun h5 => ?_) (fun h5 => ?_) rfl
  ·have h6 := un3 h5
   replace H := iff_ h6 H
   refine zam rfl rfl h5 (zah (.dat _) rfl) ?_
   refine zam rfl rfl h5 (za5 tyU9 rfl) ?_
   refine zam rfl rfl h5 (zah (.dat _) rfl) ?_
   refine zam rfl rfl h5 (zg1 rfl rfl) ?_
   refine zaa (zaj rfl (bFF h6) rfl) ?_
   refine qd rfl ?_
   refine zaz (j := 8) rfl rfl (fun h7 => ?_) (fun h7 => ?_) rfl
   ·have h8 := un3 h7
    replace H := iff_ h8 H
    refine zam rfl rfl h7 (zah (.dat _) rfl) ?_
    obtain ⟨r9, h10, H⟩ := bnd H
    refine zam rfl rfl h7 (zak (zmt r3 [48, 49, 50, 51, 52, 53, 54, 55, 56, 57] r9 h10) ⟨.inl rfl, .inl rfl, trivial⟩) ?_
    refine zam rfl rfl h7 (zck rfl) ?_
    refine zaa (zaj rfl (bFF h8) rfl) ?_
    exact ⟨!r9, H, ⟨rfl, rfl, trivial⟩, trivial⟩
   ·have h11 := un4 h7
    replace H := ift h11 H
    refine zae rfl rfl h7 ?_
    refine zae rfl rfl h7 ?_
    refine zae rfl rfl h7 ?_
    refine zaa (zas rfl (bTT h11) rfl) ?_
    exact ⟨true, H, ⟨rfl, rfl, trivial⟩, trivial⟩
  ·have h12 := un4 h5
   replace H := ift h12 H
   refine zae rfl rfl h5 ?_
   refine zae rfl rfl h5 ?_
   refine zae rfl rfl h5 ?_
   refine zae rfl rfl h5 ?_
   refine zaa (zas rfl (bTT h12) rfl) ?_
   refine qd rfl ?_
   refine zae rfl rfl rfl ?_
   refine zae rfl rfl rfl ?_
   refine zae rfl rfl rfl ?_
   refine zaa (zas rfl rfl rfl) ?_
   exact ⟨true, H, ⟨rfl, rfl, trivial⟩, trivial⟩
 ·rintro v13 H
  replace H : ziw s1 v13 = some r := H
  unfold ziw at H
  refine zai _ rfl (fun h14 => ?_) (fun h14 => ?_)
  ·replace H := ift h14 H
   refine zac ?_
   refine zab hN rfl ?_
   refine qe rfl ?_
   refine qe rfl ?_
   refine zap ?_
   cases H
   exact ⟨trivial, .inl rfl, .inl rfl, trivial⟩
  ·replace H := iff_ h14 H
   refine zan ?_
   refine zac ?_
   refine zab hN rfl ?_
   refine qd rfl ?_
   obtain ⟨r15, h16, H⟩ := bnd H
   refine zaa (zak (zrh s1 r15 h16) ⟨.inl rfl, trivial⟩) ?_
   refine qd rfl ?_
   refine zaa (zbj rfl rfl) ?_
   refine zaa (zbj rfl rfl) ?_
   refine qe rfl ?_
   refine qe rfl ?_
   refine zax (ι := Bool) (fun i => [(4, .dat (vint r15.1)), (5, .dat (za2 i))]) (fun i => []) (fun i => zj5 r15 i = some r) (fun i => rfl) ?_ ?_
   ·skip
    refine zab hN rfl ?_
    refine qd rfl ?_
    refine qd rfl ?_
    refine zaa (zu4 (n := r15.2) (show Tryz.prog.underlying 95 = some (.interface (Tryz.prog.methodsAt 95)) from by kernel_rfl) rfl) ?_
    refine qd rfl ?_
    refine zaz (j := 3) rfl rfl (fun h17 => ?_) (fun h17 => ?_) rfl
    ·have h18 := un1 h17
     replace H := ift h18 H
     refine zam rfl rfl h17 (zah (.dat _) rfl) ?_
     obtain ⟨r19, h20, H⟩ := bnd H
     refine zam rfl rfl h17 (zak (zuw r15.1 r19 h20) ⟨.inl rfl, trivial⟩) ?_
     refine zam rfl rfl h17 (zah (.dat _) rfl) ?_
     refine zam rfl rfl h17 (zdw rfl rfl) ?_
     refine zaa (zas rfl (bTT h18) rfl) ?_
     refine qe rfl ?_
     refine qe rfl ?_
     exact ⟨decide (r19 = s1), H, ⟨rfl, rfl, trivial⟩, trivial⟩
    ·have h21 := un2 h17
     replace H := iff_ h21 H
     refine zae rfl rfl h17 ?_
     refine zae rfl rfl h17 ?_
     refine zae rfl rfl h17 ?_
     refine zae rfl rfl h17 ?_
     refine zaa (zaj rfl (bFF h21) rfl) ?_
     refine qe rfl ?_
     refine qe rfl ?_
     exact ⟨false, H, ⟨rfl, rfl, trivial⟩, trivial⟩
   ·rintro v22 H
    replace H : zj5 r15 v22 = some r := H
    unfold zj5 at H
    refine zap ?_
    cases H
    exact ⟨trivial, .inl rfl, .inl rfl, trivial⟩
theorem zpa (v1 : Bs) (r : (Bs × Int)) (H : zgp v1 = some r) : Fn Tryz.prog 49 [vstr v1] (zbe [vstr r.1, vint r.2]) := by
 refine ⟨by kernel_rfl, za7 (us := [vstr r.1, vint r.2]) Tryz.func49 rfl rfl rfl rfl fun X hN => ?_⟩
 unfold zgp at H
 refine zac ?_
 refine zab hN rfl ?_
 refine qe rfl ?_
 refine qe rfl ?_
 refine zac ?_
 refine zab hN rfl ?_
 refine qd rfl ?_
 obtain ⟨r2, h3, H⟩ := bnd H
 refine zaa (zak (zmq v1 [58] r2 h3) ⟨.inl rfl, .inl rfl, trivial⟩) ?_
 refine qd rfl ?_
 refine zaa (zbj rfl rfl) ?_
 refine zaa (zbj rfl rfl) ?_
 refine zaa (zbj rfl rfl) ?_
 refine qe rfl ?_
 refine qe rfl ?_
 refine qe rfl ?_
 refine zac ?_
 refine zab hN rfl ?_
 refine qd rfl ?_
 obtain ⟨r4, h5, H⟩ := bnd H
 refine zaa (zak (zsr r2.2.1 5 r4 h5) ⟨.inl rfl, .inl rfl, trivial⟩) ?_
 refine qd rfl ?_
 refine zaa (zbj rfl rfl) ?_
 refine zaa (zbj rfl rfl) ?_
 refine qe rfl ?_
 refine qe rfl ?_
 refine zac ?_
 refine zax (ι := Bool) (fun i => [(4, .dat (vstr r2.1)), (5, .dat (vstr r2.2.1)), (6, .dat (za2 r2.2.2)), (7, .dat (vint r4.1)), (37, .dat (za2 i))]) (fun i => []) (fun i => ze1 r2 r4 i = some r) (fun i => rfl) ?_ ?_
 ·skip
  refine zab hN rfl ?_
  refine qd rfl ?_
  refine zaa (za5 tyU9 rfl) ?_
  refine zaa (zg1 rfl rfl) ?_
  refine qd rfl ?_
  refine zaz (j := 3) rfl rfl (fun h6 => ?_) (fun h6 => ?_) rfl
  ·have h7 := un3 h6
   replace H := iff_ h7 H
   refine zam rfl rfl h6 (zah (.dat _) rfl) ?_
   refine zam rfl rfl h6 (zah (.dat _) rfl) ?_
   refine zaz (j := 5) rfl rfl (fun h8 => ?_) (fun h8 => ?_) rfl
   ·have h9 := un1 h8
    replace H := ift h9 H
    refine zam rfl rfl h8 (zah (.dat _) rfl) ?_
    refine zam rfl rfl h8 (zck rfl) ?_
    refine zam rfl rfl h8 (zah (.dat _) rfl) ?_
    refine zaz (j := 8) rfl rfl (fun h10 => ?_) (fun h10 => ?_) rfl
    ·have h11 := un3 h10
     replace H := iff_ h11 H
     refine zam rfl rfl h10 (zah (.dat _) rfl) ?_
     obtain ⟨r12, h13, H⟩ := bnd H
     refine zam rfl rfl h10 (zak (zmu r4.1 1 65535 r12 h13) ⟨.inl rfl, .inl rfl, .inl rfl, trivial⟩) ?_
     refine zam rfl rfl h10 (zck rfl) ?_
     refine zam rfl rfl h8 (zaj rfl (bFF h11) rfl) ?_
     refine zam rfl rfl h6 (zas rfl (bTT h9) rfl) ?_
     refine zaa (zaj rfl (bFF h7) rfl) ?_
     exact ⟨!r12, H, ⟨rfl, rfl, rfl, rfl, rfl, trivial⟩, trivial⟩
    ·have h14 := un4 h10
     replace H := ift h14 H
     refine zae rfl rfl h10 ?_
     refine zae rfl rfl h10 ?_
     refine zae rfl rfl h10 ?_
     refine zam rfl rfl h8 (zas rfl (bTT h14) rfl) ?_
     refine zam rfl rfl h6 (zas rfl (bTT h9) rfl) ?_
     refine zaa (zaj rfl (bFF h7) rfl) ?_
     exact ⟨true, H, ⟨rfl, rfl, rfl, rfl, rfl, trivial⟩, trivial⟩
   ·have h15 := un2 h8
    replace H := iff_ h15 H
    refine zae rfl rfl h8 ?_
    refine zae rfl rfl h8 ?_
    refine zae rfl rfl h8 ?_
    refine zbc rfl rfl ?_
    refine zbc rfl rfl ?_
    refine zbc rfl rfl ?_
    refine zae rfl rfl h8 ?_
    refine zam rfl rfl h6 (zaj rfl (bFF h15) rfl) ?_
    refine zaa (zaj rfl (bFF h7) rfl) ?_
    exact ⟨false, H, ⟨rfl, rfl, rfl, rfl, rfl, trivial⟩, trivial⟩
  ·have h16 := un4 h6
   replace H := ift h16 H
   refine zae rfl rfl h6 ?_
   refine zae rfl rfl h6 ?_
   refine zbc rfl rfl ?_
   refine zbc rfl rfl ?_
   refine zbc rfl rfl ?_
   refine zbc rfl rfl ?_
   refine zbc rfl rfl ?_
   refine zbc rfl rfl ?_
   refine zbc rfl rfl ?_
   refine zae rfl rfl h6 ?_
   refine zaa (zas rfl (bTT h16) rfl) ?_
   exact ⟨true, H, ⟨rfl, rfl, rfl, rfl, rfl, trivial⟩, trivial⟩
 ·rintro v17 H
  replace H : ze1 r2 r4 v17 = some r := H
  unfold ze1 at H
  refine zai _ rfl (fun h18 => ?_) (fun h18 => ?_)
  ·replace H := ift h18 H
   refine zac ?_
   refine zab hN rfl ?_
   refine qe rfl ?_
   refine qe rfl ?_
   refine zap ?_
   cases H
   exact ⟨trivial, .inl rfl, .inl rfl, trivial⟩
  ·replace H := iff_ h18 H
   refine zan ?_
   refine zac ?_
   refine zac ?_
   refine zab hN rfl ?_
   refine qd rfl ?_
   obtain ⟨r19, h20, H⟩ := bnd H
   refine zaa (zak (zkp r2.1 [46] r19 h20) ⟨.inl rfl, .inl rfl, trivial⟩) ?_
   refine zaa (zks zse rfl) ?_
   refine qd rfl ?_
   refine zat ?_
   obtain ⟨h23, H⟩ := gif H
   refine zed (fun (k21 : Nat) (s : Unit) => [(4, .dat (vstr r2.1)), (5, .dat (vstr r2.2.1)), (6, .dat (za2 r2.2.2)), (7, .dat (vint r4.1)), (39, .dat (vlst (List.map zay r19))), (40, .dat (vint (r19.length : Int))), (41, .dat (vint (k21 : Int)))]) (fun (k21 : Nat) (s : Unit) => []) () H ⟨rfl, rfl, rfl, rfl, rfl, rfl, rfl, trivial⟩ trivial (fun _ _ => rfl) ?_ ?_
   ·rintro ⟨⟩ H
    replace H : ziy r2 r4 = some r := H
    unfold ziy at H
    refine zac ?_
    refine zab hN rfl ?_
    refine zaa (za3 rfl rfl) ?_
    refine zac ?_
    refine zai _ rfl (fun h => (lt_t h).elim) (fun h => ?_)
    refine zbp ?_
    refine zac ?_
    refine zab hN rfl ?_
    refine qd rfl ?_
    obtain ⟨r25, h26, H⟩ := bnd H
    refine zaa (zak (zjg r2.1 r25 h26) ⟨.inl rfl, trivial⟩) ?_
    refine qe rfl ?_
    refine zax (ι := Bs) (fun i => [(11, .dat (vstr i))]) (fun i => []) (fun i => zj6 i = some r) (fun i => rfl) ?_ ?_
    ·skip
     refine zac ?_
     refine zab hN rfl ?_
     refine qd rfl ?_
     refine qd rfl ?_
     refine zig rfl rfl (fun hc => zah (.dat _) rfl) ?_
     refine zig rfl rfl (fun hc => zfw (cnd (c := r2.2.2) hc) rfl) ?_
     refine zaa (zco rfl (fun hb => (cnd (c := r2.2.2) hb)) rfl) ?_
     refine qd rfl ?_
     refine zig rfl rfl (fun hc => zah (.dat _) rfl) ?_
     refine zig rfl rfl (fun hc => zfw (cnd (c := (r2.2.2 && (decide (r4.1 ≠ 80)))) hc) rfl) ?_
     refine zaa (zco rfl (fun hb => (cnd (c := (r2.2.2 && (decide (r4.1 ≠ 80)))) hb)) rfl) ?_
     refine zai _ rfl (fun h27 => ?_) (fun h27 => ?_)
     ·replace H := ift h27 H
      refine zab hN rfl ?_
      refine qd rfl ?_
      refine qd rfl ?_
      obtain ⟨h28, H⟩ := gif H
      refine zaa (zht rfl rfl (Nat.le_trans h28 (by decide))) ?_
      obtain ⟨h29, H⟩ := gif H
      refine zaa (zht rfl rfl (Nat.le_trans h29 (by decide))) ?_
      refine qe rfl ?_
      exact ⟨(r25 ++ ([58] ++ r2.2.1)), H, ⟨rfl, trivial⟩, trivial⟩
     ·replace H := iff_ h27 H
      refine zan ?_
      exact ⟨r25, H, ⟨rfl, trivial⟩, trivial⟩
    ·rintro v30 H
     replace H : zj6 v30 = some r := H
     unfold zj6 at H
     refine zac ?_
     refine zab hN rfl ?_
     refine qd rfl ?_
     refine qe rfl ?_
     refine qe rfl ?_
     refine zap ?_
     cases H
     exact ⟨trivial, .inl rfl, .inl rfl, trivial⟩
   ·rintro k21 x24 ⟨⟩ q22 h31 h32 H hq22
    replace H : zix k21 x24 = some q22 := H
    unfold zix at H
    refine zac ?_
    refine zab hN rfl ?_
    refine zaa (za3 rfl rfl) ?_
    refine zac ?_
    refine zai _ rfl (fun h => ?_) (fun h => (lt_f h31 h).elim)
    refine zan ?_
    refine zac ?_
    refine zat ?_
    refine zac ?_
    refine zab hN rfl ?_
    refine zaa (zn2 zut (fun _ => rfl) rfl rfl h32) ?_
    refine zaa (ze9 tyS9 rfl (zjk h32) rfl) ?_
    refine qe rfl ?_
    refine zax (ι := Bool) (fun i => [(4, .dat (vstr r2.1)), (5, .dat (vstr r2.2.1)), (6, .dat (za2 r2.2.2)), (7, .dat (vint r4.1)), (39, .dat (vlst (List.map zay r19))), (40, .dat (vint (r19.length : Int))), (41, .dat (vint (k21 : Int))), (59, .dat (za2 i))]) (fun i => []) (fun i => ze0 i = some q22) (fun i => rfl) ?_ ?_
    ·skip
     refine zab hN rfl ?_
     refine qd rfl ?_
     refine zaa (za5 tyU9 rfl) ?_
     obtain ⟨r33, h34, H⟩ := bnd H
     refine zaa (zak (zmu (x24.length : Int) 1 63 r33 h34) ⟨.inl rfl, .inl rfl, .inl rfl, trivial⟩) ?_
     refine zaa (zck rfl) ?_
     refine qd rfl ?_
     refine zaz (j := 4) rfl rfl (fun h35 => ?_) (fun h35 => ?_) rfl
     ·have h36 := un3 h35
      replace H := iff_ h36 H
      refine zam rfl rfl h35 (zah (.dat _) rfl) ?_
      obtain ⟨r37, h38, H⟩ := bnd H
      refine zam rfl rfl h35 (zak (zmt x24 [97, 98, 99, 100, 101, 102, 103, 104, 105, 106, 107, 108, 109, 110, 111, 112, 113, 114, 115, 116, 117, 118, 119, 120, 121, 122, 65, 66, 67, 68, 69, 70, 71, 72, 73, 74, 75, 76, 77, 78, 79, 80, 81, 82, 83, 84, 85, 86, 87, 88, 89, 90, 48, 49, 50, 51, 52, 53, 54, 55, 56, 57, 45] r37 h38) ⟨.inl rfl, .inl rfl, trivial⟩) ?_
      refine zam rfl rfl h35 (zck rfl) ?_
      refine zaa (zaj rfl (bFF h36) rfl) ?_
      refine qd rfl ?_
      refine zaz (j := 9) rfl rfl (fun h39 => ?_) (fun h39 => ?_) rfl
      ·have h40 := un3 h39
       replace H := iff_ h40 H
       refine zam rfl rfl h39 (zah (.dat _) rfl) ?_
       obtain ⟨r41, h42, H⟩ := bnd H
       refine zam rfl rfl h39 (zak (zox x24 [45] r41 h42) ⟨.inl rfl, .inl rfl, trivial⟩) ?_
       refine zam rfl rfl h39 (zah (.dat _) rfl) ?_
       refine zam rfl rfl h39 (zon rfl rfl) ?_
       refine zaa (zaj rfl (bFF h40) rfl) ?_
       exact ⟨decide (r41 ≠ x24), H, ⟨rfl, rfl, rfl, rfl, rfl, rfl, rfl, rfl, trivial⟩, trivial⟩
      ·have h43 := un4 h39
       replace H := ift h43 H
       refine zae rfl rfl h39 ?_
       refine zae rfl rfl h39 ?_
       refine zae rfl rfl h39 ?_
       refine zae rfl rfl h39 ?_
       refine zaa (zas rfl (bTT h43) rfl) ?_
       exact ⟨true, H, ⟨rfl, rfl, rfl, rfl, rfl, rfl, rfl, rfl, trivial⟩, trivial⟩
     ·have h44 := un4 h35
      replace H := ift h44 H
      refine zae rfl rfl h35 ?_
      refine zae rfl rfl h35 ?_
      refine zae rfl rfl h35 ?_
      refine zaa (zas rfl (bTT h44) rfl) ?_
      refine qd rfl ?_
      refine zae rfl rfl rfl ?_
      refine zae rfl rfl rfl ?_
      refine zae rfl rfl rfl ?_
      refine zae rfl rfl rfl ?_
      refine zaa (zas rfl rfl rfl) ?_
      exact ⟨true, H, ⟨rfl, rfl, rfl, rfl, rfl, rfl, rfl, rfl, trivial⟩, trivial⟩
    ·rintro v45 H
     replace H : ze0 v45 = some q22 := H
     unfold ze0 at H
     refine zai _ rfl (fun h46 => ?_) (fun h46 => ?_)
     ·replace H := ift h46 H
      refine zac ?_
      refine zab hN rfl ?_
      refine qe rfl ?_
      refine qe rfl ?_
      refine zap ?_
      replace H := retl H hq22
      cases H
      exact ⟨trivial, .inl rfl, .inl rfl, trivial⟩
     ·replace H := iff_ h46 H
      refine zan ?_
      refine zab hN rfl ?_
      refine zaa (zfc rfl rfl (by omega)) ?_
      refine qd rfl ?_
      exact ⟨_, zio H, ⟨rfl, rfl, rfl, rfl, rfl, rfl, rfl, trivial⟩, trivial⟩
theorem zms (s1 : Bs) (low2 : Int) (r : (Bool)) (H : zev s1 low2 = some r) : Fn Tryz.prog 64 [vstr s1, vval (.int .u8 low2)] (zbe [za2 r]) := by
 refine ⟨by kernel_rfl, za7 (us := [za2 r]) Tryz.func64 rfl rfl rfl rfl fun X hN => ?_⟩
 unfold zev at H
 refine zac ?_
 refine zab hN rfl ?_
 refine qe rfl ?_
 refine zac ?_
 refine zac ?_
 refine zab hN rfl ?_
 refine qd rfl ?_
 refine zaa (za5 tyU9 rfl) ?_
 refine qd rfl ?_
 refine zat ?_
 obtain ⟨h5, H⟩ := gif H
 refine zed (fun (k3 : Nat) (s : Unit) => [(0, .dat (vstr s1)), (1, .dat (vval (.int .u8 low2))), (7, .dat (vint (s1.length : Int))), (8, .dat (vint (k3 : Int)))]) (fun (k3 : Nat) (s : Unit) => []) () H ⟨rfl, rfl, rfl, rfl, trivial⟩ trivial (fun _ _ => rfl) ?_ ?_
 ·rintro ⟨⟩ H
  replace H : zme = some r := H
  unfold zme at H
  refine zac ?_
  refine zab hN rfl ?_
  refine zaa (za3 rfl rfl) ?_
  refine zac ?_
  refine zai _ rfl (fun h => (lt_t h).elim) (fun h => ?_)
  refine zbp ?_
  refine zac ?_
  refine zab hN rfl ?_
  refine qe rfl ?_
  refine zap ?_
  cases H
  exact ⟨trivial, .inl rfl, trivial⟩
 ·rintro k3 x6 ⟨⟩ q4 h7 h8 H hq4
  replace H : zk0 low2 k3 x6 = some q4 := H
  unfold zk0 at H
  refine zac ?_
  refine zab hN rfl ?_
  refine zaa (za3 rfl rfl) ?_
  refine zac ?_
  refine zai _ rfl (fun h => ?_) (fun h => (lt_f h7 h).elim)
  refine zan ?_
  refine zac ?_
  refine zat ?_
  refine zac ?_
  refine zab hN rfl ?_
  refine qd rfl ?_
  refine qe rfl ?_
  refine zax (ι := Bool) (fun i => [(0, .dat (vstr s1)), (1, .dat (vval (.int .u8 low2))), (7, .dat (vint (s1.length : Int))), (8, .dat (vint (k3 : Int))), (21, .dat (za2 i))]) (fun i => []) (fun i => zic i = some q4) (fun i => rfl) ?_ ?_
  ·skip
   refine zab hN rfl ?_
   refine qd rfl ?_
   refine qd rfl ?_
   refine zaa (zgg tyU9 rfl rfl h8) ?_
   refine qd rfl ?_
   refine zaa (za3 rfl rfl) ?_
   refine qd rfl ?_
   refine zaz (j := 5) rfl rfl (fun h9 => ?_) (fun h9 => ?_) rfl
   ·have h10 := un3 h9
    replace H := iff_ h10 H
    refine zam rfl rfl h9 (zah (.dat _) rfl) ?_
    refine zam rfl rfl h9 (zah (.dat _) rfl) ?_
    refine zam rfl rfl h9 (zgg tyU9 rfl rfl h8) ?_
    refine zam rfl rfl h9 (zg1 rfl rfl) ?_
    refine zaa (zaj rfl (bFF h10) rfl) ?_
    exact ⟨decide (126 < (x6.toNat : Int)), H, ⟨rfl, rfl, rfl, rfl, rfl, trivial⟩, trivial⟩
   ·have h11 := un4 h9
    replace H := ift h11 H
    refine zae rfl rfl h9 ?_
    refine zae rfl rfl h9 ?_
    refine zae rfl rfl h9 ?_
    refine zae rfl rfl h9 ?_
    refine zaa (zas rfl (bTT h11) rfl) ?_
    exact ⟨true, H, ⟨rfl, rfl, rfl, rfl, rfl, trivial⟩, trivial⟩
  ·rintro v12 H
   replace H : zic v12 = some q4 := H
   unfold zic at H
   refine zai _ rfl (fun h13 => ?_) (fun h13 => ?_)
   ·replace H := ift h13 H
    refine zac ?_
    refine zab hN rfl ?_
    refine qe rfl ?_
    refine zap ?_
    replace H := retl H hq4
    cases H
    exact ⟨trivial, .inl rfl, trivial⟩
   ·replace H := iff_ h13 H
    refine zan ?_
    refine zab hN rfl ?_
    refine zaa (zfc rfl rfl (by omega)) ?_
    refine qd rfl ?_
    exact ⟨_, zio H, ⟨rfl, rfl, rfl, rfl, trivial⟩, trivial⟩
theorem zoh (s1 : Bs) (r : (Bool)) (H : zib s1 = some r) : Fn Tryz.prog 102 [vstr s1] (zbe [za2 r]) := by
 refine ⟨by kernel_rfl, za7 (us := [za2 r]) Tryz.func102 rfl rfl rfl rfl fun X hN => ?_⟩
 unfold zib at H
 refine zac ?_
 refine zab hN rfl ?_
 refine qe rfl ?_
 refine zax (ι := Bool) (fun i => [(2, .dat (za2 i))]) (fun i => []) (fun i => zel i = some r) (fun i => rfl) ?_ ?_
 ·skip
  refine zab hN rfl ?_
  refine qd rfl ?_
  refine zaa (za5 tyU9 rfl) ?_
  obtain ⟨r2, h3, H⟩ := bnd H
  refine zaa (zak (zmu (s1.length : Int) 1 1000 r2 h3) ⟨.inl rfl, .inl rfl, .inl rfl, trivial⟩) ?_
  refine qd rfl ?_
  refine zaz (j := 3) rfl rfl (fun h4 => ?_) (fun h4 => ?_) rfl
  ·have h5 := un1 h4
   replace H := ift h5 H
   refine zam rfl rfl h4 (zah (.dat _) rfl) ?_
   obtain ⟨x6, h7, H⟩ := bnd H
   refine zam rfl rfl h4 (zgg tyU9 rfl rfl h7) ?_
   refine zam rfl rfl h4 (zb6 rfl rfl) ?_
   refine zaa (zas rfl (bTT h5) rfl) ?_
   refine qd rfl ?_
   refine zaz (j := 8) rfl rfl (fun h8 => ?_) (fun h8 => ?_) rfl
   ·have h9 := un1 h8
    replace H := ift h9 H
    refine zam rfl rfl h8 (zah (.dat _) rfl) ?_
    obtain ⟨r10, h11, H⟩ := bnd H
    refine zam rfl rfl h8 (zak (zms s1 33 r10 h11) ⟨.inl rfl, .inl rfl, trivial⟩) ?_
    refine zaa (zas rfl (bTT h9) rfl) ?_
    refine qd rfl ?_
    refine zaz (j := 12) rfl rfl (fun h12 => ?_) (fun h12 => ?_) rfl
    ·have h13 := un1 h12
     replace H := ift h13 H
     refine zam rfl rfl h12 (zah (.dat _) rfl) ?_
     obtain ⟨r14, h15, H⟩ := bnd H
     refine zam rfl rfl h12 (zak (znj s1 [63, 35] r14 h15) ⟨.inl rfl, .inl rfl, trivial⟩) ?_
     refine zam rfl rfl h12 (zck rfl) ?_
     refine zaa (zas rfl (bTT h13) rfl) ?_
     refine qe rfl ?_
     exact ⟨!r14, H, ⟨rfl, trivial⟩, trivial⟩
    ·have h16 := un2 h12
     replace H := iff_ h16 H
     refine zae rfl rfl h12 ?_
     refine zae rfl rfl h12 ?_
     refine zae rfl rfl h12 ?_
     refine zaa (zaj rfl (bFF h16) rfl) ?_
     refine qe rfl ?_
     exact ⟨false, H, ⟨rfl, trivial⟩, trivial⟩
   ·have h17 := un2 h8
    replace H := iff_ h17 H
    refine zae rfl rfl h8 ?_
    refine zae rfl rfl h8 ?_
    refine zaa (zaj rfl (bFF h17) rfl) ?_
    refine qd rfl ?_
    refine zae rfl rfl rfl ?_
    refine zae rfl rfl rfl ?_
    refine zae rfl rfl rfl ?_
    refine zaa (zaj rfl rfl rfl) ?_
    refine qe rfl ?_
    exact ⟨false, H, ⟨rfl, trivial⟩, trivial⟩
  ·have h18 := un2 h4
   replace H := iff_ h18 H
   refine zae rfl rfl h4 ?_
   refine zae rfl rfl h4 ?_
   refine zae rfl rfl h4 ?_
   refine zaa (zaj rfl (bFF h18) rfl) ?_
   refine qd rfl ?_
   refine zae rfl rfl rfl ?_
   refine zae rfl rfl rfl ?_
   refine zaa (zaj rfl rfl rfl) ?_
   refine qd rfl ?_
   refine zae rfl rfl rfl ?_
   refine zae rfl rfl rfl ?_
   refine zae rfl rfl rfl ?_
   refine zaa (zaj rfl rfl rfl) ?_
   refine qe rfl ?_
   exact ⟨false, H, ⟨rfl, trivial⟩, trivial⟩
 ·rintro v19 H
  replace H : zel v19 = some r := H
  unfold zel at H
  refine zap ?_
  cases H
  exact ⟨trivial, .inl rfl, trivial⟩
theorem zn0 (s1 : Bs) (r : (Bool)) (H : zce s1 = some r) : Fn Tryz.prog 103 [vstr s1] (zbe [za2 r]) := by
 refine ⟨by kernel_rfl, za7 (us := [za2 r]) Tryz.func103 rfl rfl rfl rfl fun X hN => ?_⟩
 unfold zce at H
 refine zac ?_
 refine zab hN rfl ?_
 refine qe rfl ?_
 refine zax (ι := Bool) (fun i => [(2, .dat (za2 i))]) (fun i => []) (fun i => zci i = some r) (fun i => rfl) ?_ ?_
 ·skip
  refine zab hN rfl ?_
  refine qd rfl ?_
  refine zaa (za5 tyU9 rfl) ?_
  refine zaa (zhp rfl rfl) ?_
  refine qd rfl ?_
  refine zaz (j := 3) rfl rfl (fun h2 => ?_) (fun h2 => ?_) rfl
  ·have h3 := un1 h2
   replace H := ift h3 H
   refine zam rfl rfl h2 (zah (.dat _) rfl) ?_
   obtain ⟨r4, h5, H⟩ := bnd H
   refine zam rfl rfl h2 (zak (zms s1 33 r4 h5) ⟨.inl rfl, .inl rfl, trivial⟩) ?_
   refine zaa (zas rfl (bTT h3) rfl) ?_
   refine qd rfl ?_
   refine zaz (j := 7) rfl rfl (fun h6 => ?_) (fun h6 => ?_) rfl
   ·have h7 := un1 h6
    replace H := ift h7 H
    refine zam rfl rfl h6 (zah (.dat _) rfl) ?_
    obtain ⟨r8, h9, H⟩ := bnd H
    refine zam rfl rfl h6 (zak (zor s1 [35] r8 h9) ⟨.inl rfl, .inl rfl, trivial⟩) ?_
    refine zam rfl rfl h6 (zck rfl) ?_
    refine zaa (zas rfl (bTT h7) rfl) ?_
    refine qe rfl ?_
    exact ⟨!r8, H, ⟨rfl, trivial⟩, trivial⟩
   ·have h10 := un2 h6
    replace H := iff_ h10 H
    refine zae rfl rfl h6 ?_
    refine zae rfl rfl h6 ?_
    refine zae rfl rfl h6 ?_
    refine zaa (zaj rfl (bFF h10) rfl) ?_
    refine qe rfl ?_
    exact ⟨false, H, ⟨rfl, trivial⟩, trivial⟩
  ·have h11 := un2 h2
   replace H := iff_ h11 H
   refine zae rfl rfl h2 ?_
   refine zae rfl rfl h2 ?_
   refine zaa (zaj rfl (bFF h11) rfl) ?_
   refine qd rfl ?_
   refine zae rfl rfl rfl ?_
   refine zae rfl rfl rfl ?_
   refine zae rfl rfl rfl ?_
   refine zaa (zaj rfl rfl rfl) ?_
   refine qe rfl ?_
   exact ⟨false, H, ⟨rfl, trivial⟩, trivial⟩
 ·rintro v12 H
  replace H : zci v12 = some r := H
  unfold zci at H
  refine zap ?_
  cases H
  exact ⟨trivial, .inl rfl, trivial⟩
theorem zns (s1 : Bs) (r : (Bool)) (H : zjq s1 = some r) : Fn Tryz.prog 18 [vstr s1] (zbe [za2 r]) := by
 refine ⟨by kernel_rfl, za7 (us := [za2 r]) Tryz.func18 rfl rfl rfl rfl fun X hN => ?_⟩
 unfold zjq at H
 refine zac ?_
 refine zab hN rfl ?_
 refine qe rfl ?_
 refine zax (ι := Bool) (fun i => [(2, .dat (za2 i))]) (fun i => []) (fun i => zji i = some r) (fun i => rfl) ?_ ?_
 ·skip
  refine zab hN rfl ?_
  refine qd rfl ?_
  refine zaa (za5 tyU9 rfl) ?_
  refine zaa (zhp rfl rfl) ?_
  refine qd rfl ?_
  refine zaz (j := 3) rfl rfl (fun h2 => ?_) (fun h2 => ?_) rfl
  ·have h3 := un1 h2
   replace H := ift h3 H
   refine zam rfl rfl h2 (zah (.dat _) rfl) ?_
   obtain ⟨r4, h5, H⟩ := bnd H
   refine zam rfl rfl h2 (zak (zms s1 32 r4 h5) ⟨.inl rfl, .inl rfl, trivial⟩) ?_
   refine zaa (zas rfl (bTT h3) rfl) ?_
   refine qd rfl ?_
   refine zaz (j := 7) rfl rfl (fun h6 => ?_) (fun h6 => ?_) rfl
   ·have h7 := un1 h6
    replace H := ift h7 H
    refine zam rfl rfl h6 (zah (.dat _) rfl) ?_
    obtain ⟨r8, h9, H⟩ := bnd H
    refine zam rfl rfl h6 (zak (zox s1 [32] r8 h9) ⟨.inl rfl, .inl rfl, trivial⟩) ?_
    refine zam rfl rfl h6 (zah (.dat _) rfl) ?_
    refine zam rfl rfl h6 (zdw rfl rfl) ?_
    refine zaa (zas rfl (bTT h7) rfl) ?_
    refine qe rfl ?_
    exact ⟨decide (r8 = s1), H, ⟨rfl, trivial⟩, trivial⟩
   ·have h10 := un2 h6
    replace H := iff_ h10 H
    refine zae rfl rfl h6 ?_
    refine zae rfl rfl h6 ?_
    refine zae rfl rfl h6 ?_
    refine zae rfl rfl h6 ?_
    refine zaa (zaj rfl (bFF h10) rfl) ?_
    refine qe rfl ?_
    exact ⟨false, H, ⟨rfl, trivial⟩, trivial⟩
  ·have h11 := un2 h2
   replace H := iff_ h11 H
   refine zae rfl rfl h2 ?_
   refine zae rfl rfl h2 ?_
   refine zaa (zaj rfl (bFF h11) rfl) ?_
   refine qd rfl ?_
   refine zae rfl rfl rfl ?_
   refine zae rfl rfl rfl ?_
   refine zae rfl rfl rfl ?_
   refine zae rfl rfl rfl ?_
   refine zaa (zaj rfl rfl rfl) ?_
   refine qe rfl ?_
   exact ⟨false, H, ⟨rfl, trivial⟩, trivial⟩
 ·rintro v12 H
  replace H : zji v12 = some r := H
  unfold zji at H
  refine zap ?_
  cases H
  exact ⟨trivial, .inl rfl, trivial⟩
end Go.Proofs.YthgblfklceopgaaGreatDoor
