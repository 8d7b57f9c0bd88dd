/- Walks along the models. Printed by a program. -/
import Derived.Test.YthgblfklceopgaaGreatDoorYnc
namespace Go.Proofs.YthgblfklceopgaaGreatDoor
open Go.RowKit
set_option linter.unusedVariables false
set_option maxRecDepth 20000
set_option maxHeartbeats 2000000
theorem znt (x1 : Int) (n2 : Int) (r : (Int)) (H : zi4 x1 n2 = some r) : Fn Tryz.prog 72 [vint x1, vint n2] (zbe [vint r]) := by
 refine ⟨by kernel_rfl, za7 (us := [vint r]) Tryz.func72 rfl rfl rfl rfl fun X hN => ?_⟩
 unfold zi4 at H
 refine zac ?_
 refine zab hN rfl ?_
 refine qe rfl ?_
 refine zac ?_
 refine zac ?_
 refine zab hN rfl ?_
 refine qd rfl ?_
 refine zaa (za3 rfl rfl) ?_
 refine zai _ rfl (fun h3 => ?_) (fun h3 => ?_)
 ·replace H := ift h3 H
  refine zac ?_
  refine zab hN rfl ?_
  refine qe rfl ?_
  refine zap ?_
  cases H
  exact ⟨trivial, .inl rfl, trivial⟩
 ·replace H := iff_ h3 H
  refine zan ?_
  refine zac ?_
  refine zab hN rfl ?_
  refine qd rfl ?_
  refine qd rfl ?_
  obtain ⟨h4, H⟩ := gif H
  refine zaa (zy5 rfl rfl h4) ?_
  refine qe rfl ?_
  refine zax (ι := Int) (fun i => [(0, .dat (vint i))]) (fun i => []) (fun i => zjj i = some r) (fun i => rfl) ?_ ?_
  ·skip
   refine zac ?_
   refine zab hN rfl ?_
   refine qd rfl ?_
   refine zaa (za3 rfl rfl) ?_
   refine zai _ rfl (fun h5 => ?_) (fun h5 => ?_)
   ·replace H := ift h5 H
    refine zab hN rfl ?_
    refine qd rfl ?_
    refine qd rfl ?_
    refine zaa (za8 _ rfl rfl (.inl ⟨rfl, rfl⟩)) ?_
    refine qe rfl ?_
    exact ⟨wr ((Int.tmod x1 n2) + n2), H, ⟨rfl, trivial⟩, trivial⟩
   ·replace H := iff_ h5 H
    refine zan ?_
    exact ⟨(Int.tmod x1 n2), H, ⟨rfl, trivial⟩, trivial⟩
  ·rintro x6 H
   replace H : zjj x6 = some r := H
   unfold zjj at H
   refine zac ?_
   refine zab hN rfl ?_
   refine qd rfl ?_
   refine qe rfl ?_
   refine zap ?_
   cases H
   exact ⟨trivial, .inl rfl, trivial⟩
theorem zdo (s1 : zad) (n2 : Int) (r : (Int × zad)) (H : zb0 s1 n2 = some r) : Imp Tryz.prog 27 25 (zaq s1) [vint n2] (zbe [vint r.1]) (zaq r.2) := by
 refine zmz (us := [vint r.1]) (cs' := (zaq r.2)) (by kernel_rfl) Tryz.func27 rfl rfl rfl rfl fun X bl hN => ?_
 unfold zb0 at H
 refine zac ?_
 refine zab hN rfl ?_
 refine qe rfl ?_
 refine zac ?_
 refine zab hN rfl ?_
 refine zaa (zah (.ptr _ _) rfl) ?_
 refine zaa (zlp rfl) ?_
 refine zaa (zaw ztw rfl) ?_
 refine zau (zav tyS3 rfl rfl) rfl ?_
 refine zaa (za8 _ rfl rfl (.inl ⟨rfl, rfl⟩)) ?_
 refine zaa (zlp rfl) ?_
 refine zaa (zaw ztw rfl) ?_
 refine zal (zdr tyS3 rfl rfl rfl rfl) rfl ?_
 refine zac ?_
 refine zac ?_
 refine zab hN rfl ?_
 refine zaa (zah (.ptr _ _) rfl) ?_
 refine zaa (zlp rfl) ?_
 refine zaa (zaw zvm rfl) ?_
 refine zau (zav z3i rfl rfl) rfl ?_
 refine zaa (zks z3g rfl) ?_
 refine zaa (zb6 rfl rfl) ?_
 refine zai _ rfl (fun h3 => ?_) (fun h3 => ?_)
 ·replace H := ift h3 H
  refine zac ?_
  refine zab hN rfl ?_
  refine zaa (zah (.ptr _ _) rfl) ?_
  refine zaa (zlp rfl) ?_
  refine zaa (zaw ztw rfl) ?_
  refine zau (zav tyS3 rfl rfl) rfl ?_
  refine zaa (za8 _ rfl rfl (.inr (.inr ⟨rfl, rfl⟩))) ?_
  refine qd rfl ?_
  obtain ⟨r4, h5, H⟩ := bnd H
  refine zaa (zak (znt (wr ((wr (s1.at_ + 1)) * 7919)) n2 r4 h5) ⟨.inl rfl, .inl rfl, trivial⟩) ?_
  refine qe rfl ?_
  refine zap ?_
  cases H
  exact ⟨trivial, ⟨.inl rfl, trivial⟩, rfl⟩
 ·replace H := iff_ h3 H
  refine zan ?_
  refine zac ?_
  refine zik mixed hN rfl rfl ?_
  refine zaa (zah (.ptr _ _) rfl) ?_
  refine zaa (zlp rfl) ?_
  refine zaa (zaw ztw rfl) ?_
  refine zau (zav tyS3 rfl rfl) rfl ?_
  refine zaa (za8 _ rfl rfl (.inr (.inl ⟨rfl, rfl⟩))) ?_
  refine zaa (zah (.ptr _ _) rfl) ?_
  refine zaa (zlp rfl) ?_
  refine zaa (zaw zvm rfl) ?_
  refine zau (zav z3i rfl rfl) rfl ?_
  refine zaa (zks z3g rfl) ?_
  obtain ⟨h6, H⟩ := gif H
  refine zaa (zy5 rfl rfl h6) ?_
  refine qe rfl ?_
  refine ⟨rfl, ?_⟩
  refine zac ?_
  refine zik mixed hN rfl rfl ?_
  refine zaa (zah (.ptr _ _) rfl) ?_
  refine zaa (zlp rfl) ?_
  refine zaa (zaw ztw rfl) ?_
  refine zau (zav tyS3 rfl rfl) rfl ?_
  refine zaa (za8 _ rfl rfl (.inr (.inl ⟨rfl, rfl⟩))) ?_
  refine zaa (zah (.ptr _ _) rfl) ?_
  refine zaa (zlp rfl) ?_
  refine zaa (zaw zvm rfl) ?_
  refine zau (zav z3i rfl rfl) rfl ?_
  refine zaa (zks z3g rfl) ?_
  obtain ⟨h7, H⟩ := gif H
  refine zaa (z6k rfl rfl h7.1 h7.2) ?_
  refine qe rfl ?_
  refine ⟨rfl, ?_⟩
  refine zac ?_
  refine zab hN rfl ?_
  refine zaa (zah (.ptr _ _) rfl) ?_
  refine zaa (zlp rfl) ?_
  refine zaa (zaw zvm rfl) ?_
  refine zau (zav z3i rfl rfl) rfl ?_
  refine qd rfl ?_
  obtain ⟨x8, h9, H⟩ := bnd H
  refine zaa (zy2 z79 (fun _ => rfl) rfl rfl h9) ?_
  refine zaa (ze9 tyS3 rfl (zjk (zk2 h9).2) rfl) ?_
  obtain ⟨r10, h11, H⟩ := bnd H
  refine zaa (zak (znt x8 1073741824 r10 h11) ⟨.inl rfl, .inl rfl, trivial⟩) ?_
  refine qd rfl ?_
  refine qd rfl ?_
  refine zaa (za8 _ rfl rfl (.inl ⟨rfl, rfl⟩)) ?_
  refine zaa (za8 _ rfl rfl (.inr (.inr ⟨rfl, rfl⟩))) ?_
  refine zaa (za8 _ rfl rfl (.inl ⟨rfl, rfl⟩)) ?_
  refine qd rfl ?_
  obtain ⟨r12, h13, H⟩ := bnd H
  refine zaa (zak (znt (wr (r10 + (wr (((wr ((wr (s1.at_ + 1)) - 1)) / (s1.L.length : Int)) * (wr (7919 + (Int.tmod (wr ((wr (s1.at_ + 1)) - 1)) (s1.L.length : Int)))))))) n2 r12 h13) ⟨.inl rfl, .inl rfl, trivial⟩) ?_
  refine qe rfl ?_
  refine zap ?_
  cases H
  exact ⟨trivial, ⟨.inl rfl, trivial⟩, rfl⟩
theorem zk8 (s1 : zad) (l2 : (List Int)) (r : (Int × zad)) (H : zep s1 l2 = some r) : Imp Tryz.prog 33 25 (zaq s1) [vlst (List.map zqb l2)] (zbe [vint r.1]) (zaq r.2) := by
 refine zmz (us := [vint r.1]) (cs' := (zaq r.2)) (by kernel_rfl) Tryz.func33 rfl rfl rfl rfl fun X bl hN => ?_
 unfold zep at H
 refine zac ?_
 refine zab hN rfl ?_
 refine qe rfl ?_
 refine zac ?_
 refine zab hN rfl ?_
 refine qd rfl ?_
 refine zaa (zah (.ptr _ _) rfl) ?_
 refine qd rfl ?_
 refine zaa (zks z3g rfl) ?_
 obtain ⟨r3, h4, H⟩ := bnd H
 refine zal (zb3 (zdo s1 (l2.length : Int) r3 h4) rfl ⟨.inl rfl, trivial⟩ rfl) rfl ?_
 obtain ⟨x5, h6, H⟩ := bnd H
 refine zaa (zy2 z79 (fun _ => rfl) rfl rfl h6) ?_
 refine zaa (ze9 tyS3 rfl (zjk (zk2 h6).2) rfl) ?_
 refine qe rfl ?_
 refine zap ?_
 cases H
 exact ⟨trivial, ⟨.inl rfl, trivial⟩, rfl⟩
theorem zbf (s1 : zad) (l2 : (List Bs)) (r : (Bs × zad)) (H : za6 s1 l2 = some r) : Imp Tryz.prog 35 25 (zaq s1) [vlst (List.map zay l2)] (zbe [vstr r.1]) (zaq r.2) := by
 refine zmz (us := [vstr r.1]) (cs' := (zaq r.2)) (by kernel_rfl) Tryz.func35 rfl rfl rfl rfl fun X bl hN => ?_
 unfold za6 at H
 refine zac ?_
 refine zab hN rfl ?_
 refine qe rfl ?_
 refine zac ?_
 refine zab hN rfl ?_
 refine qd rfl ?_
 refine zaa (zah (.ptr _ _) rfl) ?_
 refine qd rfl ?_
 refine zaa (zks zse rfl) ?_
 obtain ⟨r3, h4, H⟩ := bnd H
 refine zal (zb3 (zdo s1 (l2.length : Int) r3 h4) rfl ⟨.inl rfl, trivial⟩ rfl) rfl ?_
 obtain ⟨x5, h6, H⟩ := bnd H
 refine zaa (zy2 zut (fun _ => rfl) rfl rfl h6) ?_
 refine zaa (ze9 tyS9 rfl (zjk (zk2 h6).2) rfl) ?_
 refine qe rfl ?_
 refine zap ?_
 cases H
 exact ⟨trivial, ⟨.inl rfl, trivial⟩, rfl⟩
theorem zoi (s1 : zad) (r : (Bs × zad)) (H : zfk s1 = some r) : Imp Tryz.prog 71 25 (zaq s1) [] (zbe [vstr r.1]) (zaq r.2) := by
 refine zmz (us := [vstr r.1]) (cs' := (zaq r.2)) (by kernel_rfl) Tryz.func71 rfl rfl rfl rfl fun X bl hN => ?_
 unfold zfk at H
 refine zac ?_
 refine zab hN rfl ?_
 refine qe rfl ?_
 refine zac ?_
 refine zab hN rfl ?_
 refine zaa (zah (.ptr _ _) rfl) ?_
 refine zaa (za4 (u' := vlst (List.map zay [[97, 46, 98], [97, 46, 98], [65, 46, 66], [97, 46, 98, 58, 56, 48], [99, 46, 100, 58, 56, 48, 56, 48]])) (zcl [[_], [_], [_], [_], [_]] zlg ⟨rfl, .inl ⟨_, rfl, rfl, rfl⟩, rfl, rfl, .inl ⟨_, rfl, rfl, rfl⟩, rfl, rfl, .inl ⟨_, rfl, rfl, rfl⟩, rfl, rfl, .inl ⟨_, rfl, rfl, rfl⟩, rfl, rfl, .inl ⟨_, rfl, rfl, rfl⟩, rfl, trivial⟩ rfl rfl) rfl) ?_
 obtain ⟨r2, h3, H⟩ := bnd H
 refine zal (zb3 (zbf s1 ([[97, 46, 98], [97, 46, 98], [65, 46, 66], [97, 46, 98, 58, 56, 48], [99, 46, 100, 58, 56, 48, 56, 48]]) r2 h3) rfl ⟨.inl rfl, trivial⟩ rfl) rfl ?_
 refine qe rfl ?_
 refine zap ?_
 cases H
 exact ⟨trivial, ⟨.inl rfl, trivial⟩, rfl⟩
theorem zhd (s1 : zad) (low2 : Int) (high3 : Int) (r : (Int × zad)) (H : zdh s1 low2 high3 = some r) : Imp Tryz.prog 73 25 (zaq s1) [vint low2, vint high3] (zbe [vint r.1]) (zaq r.2) := by
 refine zmz (us := [vint r.1]) (cs' := (zaq r.2)) (by kernel_rfl) Tryz.func73 rfl rfl rfl rfl fun X bl hN => ?_
 unfold zdh at H
 refine zac ?_
 refine zab hN rfl ?_
 refine qe rfl ?_
 refine zac ?_
 refine zac ?_
 refine zab hN rfl ?_
 refine qd rfl ?_
 refine qd rfl ?_
 refine zaa (za3 rfl rfl) ?_
 refine zai _ rfl (fun h4 => ?_) (fun h4 => ?_)
 ·replace H := ift h4 H
  refine zac ?_
  refine zab hN rfl ?_
  refine qd rfl ?_
  refine qe rfl ?_
  refine zap ?_
  cases H
  exact ⟨trivial, ⟨.inl rfl, trivial⟩, rfl⟩
 ·replace H := iff_ h4 H
  refine zan ?_
  refine zac ?_
  refine zab hN rfl ?_
  refine qd rfl ?_
  refine zaa (zah (.ptr _ _) rfl) ?_
  refine qd rfl ?_
  refine qd rfl ?_
  refine zaa (za8 _ rfl rfl (.inr (.inl ⟨rfl, rfl⟩))) ?_
  refine zaa (za8 _ rfl rfl (.inl ⟨rfl, rfl⟩)) ?_
  obtain ⟨r5, h6, H⟩ := bnd H
  refine zal (zb3 (zdo s1 (wr ((wr (high3 - low2)) + 1)) r5 h6) rfl ⟨.inl rfl, trivial⟩ rfl) rfl ?_
  refine zaa (za8 _ rfl rfl (.inl ⟨rfl, rfl⟩)) ?_
  refine qe rfl ?_
  refine zap ?_
  cases H
  exact ⟨trivial, ⟨.inl rfl, trivial⟩, rfl⟩
theorem znl (s1 : zad) (most2 : Int) (r : ((List zaf) × zad)) (H : zb4 s1 most2 = some r) : Imp Tryz.prog 34 25 (zaq s1) [vint most2] (zbe [vlst (List.map zao r.1)]) (zaq r.2) := by
 refine zmz (us := [vlst (List.map zao r.1)]) (cs' := (zaq r.2)) (by kernel_rfl) Tryz.func34 rfl rfl rfl rfl fun X bl hN => ?_
 unfold zb4 at H
 refine zac ?_
 refine zab hN rfl ?_
 refine qe rfl ?_
 refine zac ?_
 refine zab hN rfl ?_
 refine qe rfl ?_
 refine zac ?_
 refine zac ?_
 refine zab hN rfl ?_
 refine zaa (zah (.ptr _ _) rfl) ?_
 refine qd rfl ?_
 obtain ⟨r3, h4, H⟩ := bnd H
 refine zal (zb3 (zhd s1 0 most2 r3 h4) rfl ⟨.inl rfl, .inl rfl, trivial⟩ rfl) rfl ?_
 refine qd rfl ?_
 refine zat ?_
 refine zeh 5 1 52 2 rfl rfl rfl ?_
 obtain ⟨h10, H⟩ := gif H
 refine zup (fun (k8 : Nat) (s : (List Int) × Int × (List zaf)) => [(0, .ptr 0 0), (5, .row 1 s.2.2.length), (8, .dat (vint r3.1)), (9, .dat (vint (k8 : Int)))]) (fun (k8 : Nat) (s : (List Int) × Int × (List zaf)) => [(0, .box (some bl) 25 [.dat (vlst (List.map zqb s.1)), .dat (vint s.2.1)]), (1, .row 52 2 (List.map zao s.2.2))]) (r3.2.L, r3.2.at_, []) H ⟨rfl, rfl, rfl, rfl, trivial⟩ ⟨rfl, rfl, trivial⟩ (fun _ _ => rfl) ?_ ?_
 ·rintro ⟨c5, c6, l7⟩ H
  replace H : zcz c5 c6 l7 = some r := H
  unfold zcz at H
  refine zac ?_
  refine zab hN rfl ?_
  refine zaa (za3 rfl rfl) ?_
  refine zac ?_
  refine zai _ rfl (fun h => (z66 h).elim) (fun h => ?_)
  refine zbp ?_
  refine zac ?_
  refine zab hN rfl ?_
  refine zaa (zah (.row _ _) rfl) ?_
  refine zaa (zbb (.row _ _) rfl) ?_
  refine zap ?_
  cases H
  exact ⟨trivial, ⟨zov rfl rfl, trivial⟩, rfl⟩
 ·rintro k8 ⟨c5, c6, l7⟩ q9 h11 H hq9
  replace H : zcy k8 c5 c6 l7 = some q9 := H
  unfold zcy at H
  refine zac ?_
  refine zab hN rfl ?_
  refine zaa (za3 rfl rfl) ?_
  refine zac ?_
  refine zai _ rfl (fun h => ?_) (fun h => (z67 h11 h).elim)
  refine zan ?_
  refine zac ?_
  refine zat ?_
  refine zab hN rfl ?_
  refine zaa (zah (.row _ _) rfl) ?_
  refine zaa (zah (.ptr _ _) rfl) ?_
  refine zaa (za4 (u' := vlst (List.map zay [[97, 99, 99, 101, 112, 116], [65, 99, 99, 101, 112, 116], [120, 45, 111, 110, 101], [88, 45, 84, 119, 111], [99, 111, 111, 107, 105, 101], [118, 97, 114, 121], [99, 111, 110, 110, 101, 99, 116, 105, 111, 110], [120, 45, 102, 111, 114, 119, 97, 114, 100, 101, 100, 45, 102, 111, 114], [118, 105, 97], [120, 45, 102, 111, 114, 119, 97, 114, 100, 101, 100, 45, 104, 111, 115, 116], [116, 101]])) (zcl [[_], [_], [_], [_], [_], [_], [_], [_], [_], [_], [_]] zlg ⟨rfl, .inl ⟨_, rfl, rfl, rfl⟩, rfl, rfl, .inl ⟨_, rfl, rfl, rfl⟩, rfl, rfl, .inl ⟨_, rfl, rfl, rfl⟩, rfl, rfl, .inl ⟨_, rfl, rfl, rfl⟩, rfl, rfl, .inl ⟨_, rfl, rfl, rfl⟩, rfl, rfl, .inl ⟨_, rfl, rfl, rfl⟩, rfl, rfl, .inl ⟨_, rfl, rfl, rfl⟩, rfl, rfl, .inl ⟨_, rfl, rfl, rfl⟩, rfl, rfl, .inl ⟨_, rfl, rfl, rfl⟩, rfl, rfl, .inl ⟨_, rfl, rfl, rfl⟩, rfl, rfl, .inl ⟨_, rfl, rfl, rfl⟩, rfl, trivial⟩ rfl rfl) rfl) ?_
  obtain ⟨r12, h13, H⟩ := bnd H
  refine zal (zb3 (zbf (zad.mk c5 c6) ([[97, 99, 99, 101, 112, 116], [65, 99, 99, 101, 112, 116], [120, 45, 111, 110, 101], [88, 45, 84, 119, 111], [99, 111, 111, 107, 105, 101], [118, 97, 114, 121], [99, 111, 110, 110, 101, 99, 116, 105, 111, 110], [120, 45, 102, 111, 114, 119, 97, 114, 100, 101, 100, 45, 102, 111, 114], [118, 105, 97], [120, 45, 102, 111, 114, 119, 97, 114, 100, 101, 100, 45, 104, 111, 115, 116], [116, 101]]) r12 h13) rfl ⟨.inl rfl, trivial⟩ rfl) rfl ?_
  refine zaa (zah (.ptr _ _) rfl) ?_
  refine zaa (za4 (u' := vlst (List.map zay [[49], [120], [97, 44, 32, 98], [], [120, 45, 111, 110, 101, 44, 32, 99, 108, 111, 115, 101], [103, 119], [49, 46, 50, 46, 51, 46, 52], [53, 46, 54, 46, 55, 46, 56, 44, 32, 57, 46, 57, 46, 57, 46, 57]])) (zcl [[_], [_], [_], [_], [_], [_], [_], [_]] zlg ⟨rfl, .inl ⟨_, rfl, rfl, rfl⟩, rfl, rfl, .inl ⟨_, rfl, rfl, rfl⟩, rfl, rfl, .inl ⟨_, rfl, rfl, rfl⟩, rfl, rfl, .inl ⟨_, rfl, rfl, rfl⟩, rfl, rfl, .inl ⟨_, rfl, rfl, rfl⟩, rfl, rfl, .inl ⟨_, rfl, rfl, rfl⟩, rfl, rfl, .inl ⟨_, rfl, rfl, rfl⟩, rfl, rfl, .inl ⟨_, rfl, rfl, rfl⟩, rfl, trivial⟩ rfl rfl) rfl) ?_
  obtain ⟨r14, h15, H⟩ := bnd H
  refine zal (zb3 (zbf r12.2 ([[49], [120], [97, 44, 32, 98], [], [120, 45, 111, 110, 101, 44, 32, 99, 108, 111, 115, 101], [103, 119], [49, 46, 50, 46, 51, 46, 52], [53, 46, 54, 46, 55, 46, 56, 44, 32, 57, 46, 57, 46, 57, 46, 57]]) r14 h15) rfl ⟨.inl rfl, trivial⟩ rfl) rfl ?_
  refine zaa (za4 (u' := vagg (zao (zaf.mk r12.1 r14.1))) (zd5 [(0, [vstr r12.1]), (1, [vstr r14.1])] zp4 zvj rfl ⟨rfl, .inl ⟨_, rfl, rfl, rfl⟩, rfl, rfl, .inl ⟨_, rfl, rfl, rfl⟩, rfl, trivial⟩) rfl) ?_
  refine zaa (za4 (u' := vlst (List.map zao [(zaf.mk r12.1 r14.1)])) (zcl [_] zob ⟨rfl, .inr rfl, rfl, trivial⟩ rfl rfl) rfl) ?_
  obtain ⟨h16, H⟩ := gif H
  refine zal (zm1 zob (fun _ => rfl) rfl rfl rfl ⟨by simp, by first | (simp; done) | simpa using h16⟩ rfl) rfl ?_
  refine zaa (zbb (.row _ _) rfl) ?_
  refine zab hN rfl ?_
  refine zaa (zfc rfl rfl (by omega)) ?_
  refine qd rfl ?_
  exact ⟨_, zio H, ⟨rfl, rfl, rfl, rfl, trivial⟩, ⟨rfl, rfl, trivial⟩⟩
theorem zdp (s1 : zad) (n2 : Int) (r : (Bool × zad)) (H : zb1 s1 n2 = some r) : Imp Tryz.prog 26 25 (zaq s1) [vint n2] (zbe [za2 r.1]) (zaq r.2) := by
 refine zmz (us := [za2 r.1]) (cs' := (zaq r.2)) (by kernel_rfl) Tryz.func26 rfl rfl rfl rfl fun X bl hN => ?_
 unfold zb1 at H
 refine zac ?_
 refine zab hN rfl ?_
 refine qe rfl ?_
 refine zac ?_
 refine zab hN rfl ?_
 refine zaa (zah (.ptr _ _) rfl) ?_
 refine qd rfl ?_
 obtain ⟨r3, h4, H⟩ := bnd H
 refine zal (zb3 (zdo s1 n2 r3 h4) rfl ⟨.inl rfl, trivial⟩ rfl) rfl ?_
 refine zaa (zb6 rfl rfl) ?_
 refine qe rfl ?_
 refine zap ?_
 cases H
 exact ⟨trivial, ⟨.inl rfl, trivial⟩, rfl⟩
theorem zjr (s : Bs) (n : Int) (r : Bs) (H : zd6 s n = some r) : Fn Tryz.prog 32 [vstr s, vint n] (zbe [vstr r]) := by
 obtain ⟨h0, h1, h2, rfl⟩ := zx5 H
 obtain ⟨c, rfl⟩ := Int.eq_ofNat_of_zero_le h0
 refine zpx (by kernel_rfl) fun M w vs h => ?_
 have hv := zl1 (us := [.string ⟨s.toArray⟩, .int .i64 c]) h
 subst hv
 have hs : (ByteArray.mk s.toArray).size = s.length := by simp [ByteArray.size]
 refine (Tryz.strings_Repeat ⟨s.toArray⟩ c w (by omega) (by rw [hs]; exact Nat.le_trans (Nat.mul_le_mul h2 (show c ≤ 1000000 by omega)) (by decide))).mono ?_
 rintro e w' ⟨rfl, hb⟩
 exact ⟨_, rfl, by simp [zbe, vstr, vval], Kp.of_below hb⟩
theorem znk (s1 : zad) (r : (zar × zad)) (H : zd0 s1 = some r) : Imp Tryz.prog 25 25 (zaq s1) [] (zbe [vagg (za9 r.1)]) (zaq r.2) := by
 refine zmz (us := [vagg (za9 r.1)]) (cs' := (zaq r.2)) (by kernel_rfl) Tryz.func25 rfl rfl rfl rfl fun X bl hN => ?_
 unfold zd0 at H
 refine zac ?_
 refine zab hN rfl ?_
 refine zal (zdf 1 zph rfl) rfl ?_
 refine zac ?_
 refine zab hN rfl ?_
 refine zaa (zah (.ptr _ _) rfl) ?_
 refine zaa (za4 (u' := vlst (List.map zqb [0, 5, 1000, 60000])) (zcl [[_], [_], [_], [_]] z6c ⟨rfl, .inl ⟨_, rfl, rfl, rfl⟩, rfl, rfl, .inl ⟨_, rfl, rfl, rfl⟩, rfl, rfl, .inl ⟨_, rfl, rfl, rfl⟩, rfl, rfl, .inl ⟨_, rfl, rfl, rfl⟩, rfl, trivial⟩ rfl rfl) rfl) ?_
 obtain ⟨r2, h3, H⟩ := bnd H
 refine zal (zb3 (zk8 s1 [0, 5, 1000, 60000] r2 h3) rfl ⟨.inl rfl, trivial⟩ rfl) rfl ?_
 refine zaa (zah (.ptr _ _) rfl) ?_
 refine zaa (za4 (u' := vlst (List.map zay [[71, 69, 84], [71, 69, 84], [71, 69, 84], [72, 69, 65, 68], [80, 79, 83, 84], [103, 101, 116]])) (zcl [[_], [_], [_], [_], [_], [_]] zlg ⟨rfl, .inl ⟨_, rfl, rfl, rfl⟩, rfl, rfl, .inl ⟨_, rfl, rfl, rfl⟩, rfl, rfl, .inl ⟨_, rfl, rfl, rfl⟩, rfl, rfl, .inl ⟨_, rfl, rfl, rfl⟩, rfl, rfl, .inl ⟨_, rfl, rfl, rfl⟩, rfl, rfl, .inl ⟨_, rfl, rfl, rfl⟩, rfl, trivial⟩ rfl rfl) rfl) ?_
 obtain ⟨r4, h5, H⟩ := bnd H
 refine zal (zb3 (zbf r2.2 ([[71, 69, 84], [71, 69, 84], [71, 69, 84], [72, 69, 65, 68], [80, 79, 83, 84], [103, 101, 116]]) r4 h5) rfl ⟨.inl rfl, trivial⟩ rfl) rfl ?_
 refine zaa (zah (.ptr _ _) rfl) ?_
 obtain ⟨r6, h7, H⟩ := bnd H
 refine zal (zb3 (zoi r4.2 r6 h7) rfl trivial rfl) rfl ?_
 refine zaa (zah (.ptr _ _) rfl) ?_
 refine zaa (za4 (u' := vlst (List.map zay [[47], [47, 97], [47, 97], [47, 97, 47, 98], [47, 97, 47, 46, 46, 47, 98], [47, 37, 52, 49]])) (zcl [[_], [_], [_], [_], [_], [_]] zlg ⟨rfl, .inl ⟨_, rfl, rfl, rfl⟩, rfl, rfl, .inl ⟨_, rfl, rfl, rfl⟩, rfl, rfl, .inl ⟨_, rfl, rfl, rfl⟩, rfl, rfl, .inl ⟨_, rfl, rfl, rfl⟩, rfl, rfl, .inl ⟨_, rfl, rfl, rfl⟩, rfl, rfl, .inl ⟨_, rfl, rfl, rfl⟩, rfl, trivial⟩ rfl rfl) rfl) ?_
 obtain ⟨r8, h9, H⟩ := bnd H
 refine zal (zb3 (zbf r6.2 ([[47], [47, 97], [47, 97], [47, 97, 47, 98], [47, 97, 47, 46, 46, 47, 98], [47, 37, 52, 49]]) r8 h9) rfl ⟨.inl rfl, trivial⟩ rfl) rfl ?_
 refine zaa (zah (.ptr _ _) rfl) ?_
 refine zaa (za4 (u' := vlst (List.map zay [[], [], [120, 61, 49], [98, 61, 50, 38, 97, 61, 49]])) (zcl [[_], [_], [_], [_]] zlg ⟨rfl, .inl ⟨_, rfl, rfl, rfl⟩, rfl, rfl, .inl ⟨_, rfl, rfl, rfl⟩, rfl, rfl, .inl ⟨_, rfl, rfl, rfl⟩, rfl, rfl, .inl ⟨_, rfl, rfl, rfl⟩, rfl, trivial⟩ rfl rfl) rfl) ?_
 obtain ⟨r10, h11, H⟩ := bnd H
 refine zal (zb3 (zbf r8.2 ([[], [], [120, 61, 49], [98, 61, 50, 38, 97, 61, 49]]) r10 h11) rfl ⟨.inl rfl, trivial⟩ rfl) rfl ?_
 refine zaa (zah (.ptr _ _) rfl) ?_
 refine zaa (za4 (u' := vlst (List.map zay [[49, 48, 46, 48, 46, 48, 46, 49], [49, 48, 46, 48, 46, 48, 46, 49], [57, 46, 57, 46, 57, 46, 57], []])) (zcl [[_], [_], [_], [_]] zlg ⟨rfl, .inl ⟨_, rfl, rfl, rfl⟩, rfl, rfl, .inl ⟨_, rfl, rfl, rfl⟩, rfl, rfl, .inl ⟨_, rfl, rfl, rfl⟩, rfl, rfl, .inl ⟨_, rfl, rfl, rfl⟩, rfl, trivial⟩ rfl rfl) rfl) ?_
 obtain ⟨r12, h13, H⟩ := bnd H
 refine zal (zb3 (zbf r10.2 ([[49, 48, 46, 48, 46, 48, 46, 49], [49, 48, 46, 48, 46, 48, 46, 49], [57, 46, 57, 46, 57, 46, 57], []]) r12 h13) rfl ⟨.inl rfl, trivial⟩ rfl) rfl ?_
 refine zaa (zah (.ptr _ _) rfl) ?_
 obtain ⟨r14, h15, H⟩ := bnd H
 refine zal (zb3 (znl r12.2 4 r14 h15) rfl ⟨.inl rfl, trivial⟩ rfl) rfl ?_
 refine zaa (za4 (u' := vagg (za9 (zar.mk r2.1 r4.1 r6.1 r8.1 r10.1 r12.1 r14.1 []))) (zd5 [(0, [vint r2.1]), (1, [vstr r4.1]), (2, [vstr r6.1]), (3, [vstr r8.1]), (4, [vstr r10.1]), (5, [vstr r12.1]), (6, [vlst (List.map zao r14.1)])] zph zvk rfl ⟨rfl, .inl ⟨_, rfl, rfl, rfl⟩, rfl, rfl, .inl ⟨_, rfl, rfl, rfl⟩, rfl, rfl, .inl ⟨_, rfl, rfl, rfl⟩, rfl, rfl, .inl ⟨_, rfl, rfl, rfl⟩, rfl, rfl, .inl ⟨_, rfl, rfl, rfl⟩, rfl, rfl, .inl ⟨_, rfl, rfl, rfl⟩, rfl, rfl, .inl ⟨_, rfl, rfl, rfl⟩, rfl, trivial⟩) rfl) ?_
 refine zal (zdf 2 zph rfl) rfl ?_
 refine zal (zb9 zkd rfl rfl rfl rfl) rfl ?_
 refine zax (ι := (List Int) × Int × Bs) (fun i => [(2, .ptr 1 0), (3, .ptr 2 0)]) (fun i => [(0, .box (some bl) 25 [.dat (vlst (List.map zqb i.1)), .dat (vint i.2.1)]), (1, .box none 28 [.dat (vint 0), .dat (vstr []), .dat (vstr []), .dat (vstr []), .dat (vstr []), .dat (vstr []), .dat (vnil), .dat (vstr [])]), (2, .box none 28 [.dat (vint r2.1), .dat (vstr r4.1), .dat (vstr r6.1), .dat (vstr r8.1), .dat (vstr r10.1), .dat (vstr r12.1), .dat (vlst (List.map zao r14.1)), .dat (vstr i.2.2)])]) (fun i => zcx r2 r4 r6 r8 r10 r12 r14 i.1 i.2.1 i.2.2 = some r) (fun i => rfl) ?_ ?_
 ·skip
  refine zac ?_
  refine zab hN rfl ?_
  refine zaa (zah (.ptr _ _) rfl) ?_
  obtain ⟨r16, h17, H⟩ := bnd H
  refine zal (zb3 (zdp r14.2 4 r16 h17) rfl ⟨.inl rfl, trivial⟩ rfl) rfl ?_
  refine zai _ rfl (fun h18 => ?_) (fun h18 => ?_)
  ·replace H := ift h18 H
   refine zab hN rfl ?_
   refine zaa (zah (.ptr _ _) rfl) ?_
   obtain ⟨r19, h20, H⟩ := bnd H
   refine zaa (zak (zjr [97, 98] 40 r19 h20) ⟨.inl rfl, .inl rfl, trivial⟩) ?_
   refine zaa (za4 (u' := vlst (List.map zay [[104, 101, 108, 108, 111], [120], r19])) (zcl [[_], [_], [_]] zlg ⟨rfl, .inl ⟨_, rfl, rfl, rfl⟩, rfl, rfl, .inl ⟨_, rfl, rfl, rfl⟩, rfl, rfl, .inl ⟨_, rfl, rfl, rfl⟩, rfl, trivial⟩ rfl rfl) rfl) ?_
   obtain ⟨r21, h22, H⟩ := bnd H
   refine zal (zb3 (zbf r16.2 ([[104, 101, 108, 108, 111], [120], r19]) r21 h22) rfl ⟨.inl rfl, trivial⟩ rfl) rfl ?_
   refine zaa (zaw zsg rfl) ?_
   refine zal (zdr tyS9 rfl rfl rfl rfl) rfl ?_
   exact ⟨(r21.2.L, r21.2.at_, r21.1), H, ⟨rfl, rfl, trivial⟩, ⟨rfl, rfl, rfl, trivial⟩⟩
  ·replace H := iff_ h18 H
   refine zan ?_
   exact ⟨(r16.2.L, r16.2.at_, []), H, ⟨rfl, rfl, trivial⟩, ⟨rfl, rfl, rfl, trivial⟩⟩
 ·rintro ⟨c23, c24, c25⟩ H
  replace H : zcx r2 r4 r6 r8 r10 r12 r14 c23 c24 c25 = some r := H
  unfold zcx at H
  refine zac ?_
  refine zab hN rfl ?_
  refine zau (zf6 zkd rfl rfl rfl) rfl ?_
  refine zal (zb9 zkd rfl rfl rfl rfl) rfl ?_
  refine zap ?_
  cases H
  exact ⟨trivial, ⟨.inl ⟨_, _, _, za9 (zar.mk r2.1 r4.1 r6.1 r8.1 r10.1 r12.1 r14.1 c25), rfl, rfl, rfl, rfl, zkd⟩, trivial⟩, rfl⟩
theorem zqv (s1 : zad) (low2 : Int) (high3 : Int) (r : (Int × zad)) (H : zim s1 low2 high3 = some r) : Imp Tryz.prog 28 25 (zaq s1) [vint low2, vint high3] (zbe [vint r.1]) (zaq r.2) := by
 refine zmz (us := [vint r.1]) (cs' := (zaq r.2)) (by kernel_rfl) Tryz.func28 rfl rfl rfl rfl fun X bl hN => ?_
 unfold zim at H
 refine zac ?_
 refine zab hN rfl ?_
 refine qe rfl ?_
 refine zac ?_
 refine zac ?_
 refine zab hN rfl ?_
 refine zaa (zah (.ptr _ _) rfl) ?_
 obtain ⟨r4, h5, H⟩ := bnd H
 refine zal (zb3 (zdp s1 12 r4 h5) rfl ⟨.inl rfl, trivial⟩ rfl) rfl ?_
 refine zai _ rfl (fun h6 => ?_) (fun h6 => ?_)
 ·replace H := ift h6 H
  refine zac ?_
  refine zab hN rfl ?_
  refine zaa (zah (.ptr _ _) rfl) ?_
  refine qd rfl ?_
  refine zaa (za8 _ rfl rfl (.inr (.inl ⟨rfl, rfl⟩))) ?_
  refine qd rfl ?_
  refine zaa (za8 _ rfl rfl (.inl ⟨rfl, rfl⟩)) ?_
  refine qd rfl ?_
  refine qd rfl ?_
  refine zaa (za4 (u' := vlst (List.map zqb [wr (low2 - 1), wr (high3 + 1), low2, high3, (-1099511627776), 1099511627776])) (zcl [[_], [_], [_], [_], [_], [_]] z6c ⟨rfl, .inl ⟨_, rfl, rfl, rfl⟩, rfl, rfl, .inl ⟨_, rfl, rfl, rfl⟩, rfl, rfl, .inl ⟨_, rfl, rfl, rfl⟩, rfl, rfl, .inl ⟨_, rfl, rfl, rfl⟩, rfl, rfl, .inl ⟨_, rfl, rfl, rfl⟩, rfl, rfl, .inl ⟨_, rfl, rfl, rfl⟩, rfl, trivial⟩ rfl rfl) rfl) ?_
  obtain ⟨r7, h8, H⟩ := bnd H
  refine zal (zb3 (zk8 r4.2 [wr (low2 - 1), wr (high3 + 1), low2, high3, (-1099511627776), 1099511627776] r7 h8) rfl ⟨.inl rfl, trivial⟩ rfl) rfl ?_
  refine qe rfl ?_
  refine zap ?_
  cases H
  exact ⟨trivial, ⟨.inl rfl, trivial⟩, rfl⟩
 ·replace H := iff_ h6 H
  refine zan ?_
  refine zac ?_
  refine zab hN rfl ?_
  refine zaa (zah (.ptr _ _) rfl) ?_
  refine qd rfl ?_
  refine qd rfl ?_
  obtain ⟨r9, h10, H⟩ := bnd H
  refine zal (zb3 (zhd r4.2 low2 high3 r9 h10) rfl ⟨.inl rfl, .inl rfl, trivial⟩ rfl) rfl ?_
  refine qe rfl ?_
  refine zap ?_
  cases H
  exact ⟨trivial, ⟨.inl rfl, trivial⟩, rfl⟩
theorem zjn (s1 : zad) (r : (Bs × zad)) (H : zc0 s1 = some r) : Imp Tryz.prog 6 25 (zaq s1) [] (zbe [vstr r.1]) (zaq r.2) := by
 refine zmz (us := [vstr r.1]) (cs' := (zaq r.2)) (by kernel_rfl) Tryz.func6 rfl rfl rfl rfl fun X bl hN => ?_
 unfold zc0 at H
 refine zac ?_
 refine zab hN rfl ?_
 refine qe rfl ?_
 refine zac ?_
 refine zab hN rfl ?_
 refine zaa (zah (.ptr _ _) rfl) ?_
 obtain ⟨r2, h3, H⟩ := bnd H
 refine zaa (zak (zjr [110] 101 r2 h3) ⟨.inl rfl, .inl rfl, trivial⟩) ?_
 refine zaa (za4 (u' := vlst (List.map zay [[97, 99, 99, 101, 112, 116], [88, 45, 79, 110, 101], [120, 45, 111, 110, 101], [118, 105, 97], [97], [65], [116, 101], [99, 111, 110, 110, 101, 99, 116, 105, 111, 110], [], [97, 32, 98], [97, 58], [127], r2])) (zcl [[_], [_], [_], [_], [_], [_], [_], [_], [_], [_], [_], [_], [_]] zlg ⟨rfl, .inl ⟨_, rfl, rfl, rfl⟩, rfl, rfl, .inl ⟨_, rfl, rfl, rfl⟩, rfl, rfl, .inl ⟨_, rfl, rfl, rfl⟩, rfl, rfl, .inl ⟨_, rfl, rfl, rfl⟩, rfl, rfl, .inl ⟨_, rfl, rfl, rfl⟩, rfl, rfl, .inl ⟨_, rfl, rfl, rfl⟩, rfl, rfl, .inl ⟨_, rfl, rfl, rfl⟩, rfl, rfl, .inl ⟨_, rfl, rfl, rfl⟩, rfl, rfl, .inl ⟨_, rfl, rfl, rfl⟩, rfl, rfl, .inl ⟨_, rfl, rfl, rfl⟩, rfl, rfl, .inl ⟨_, rfl, rfl, rfl⟩, rfl, rfl, .inl ⟨_, rfl, rfl, rfl⟩, rfl, rfl, .inl ⟨_, rfl, rfl, rfl⟩, rfl, trivial⟩ rfl rfl) rfl) ?_
 obtain ⟨r4, h5, H⟩ := bnd H
 refine zal (zb3 (zbf s1 ([[97, 99, 99, 101, 112, 116], [88, 45, 79, 110, 101], [120, 45, 111, 110, 101], [118, 105, 97], [97], [65], [116, 101], [99, 111, 110, 110, 101, 99, 116, 105, 111, 110], [], [97, 32, 98], [97, 58], [127], r2]) r4 h5) rfl ⟨.inl rfl, trivial⟩ rfl) rfl ?_
 refine qe rfl ?_
 refine zap ?_
 cases H
 exact ⟨trivial, ⟨.inl rfl, trivial⟩, rfl⟩
theorem zol (s1 : zad) (r : (Bs × zad)) (H : zfv s1 = some r) : Imp Tryz.prog 29 25 (zaq s1) [] (zbe [vstr r.1]) (zaq r.2) := by
 refine zmz (us := [vstr r.1]) (cs' := (zaq r.2)) (by kernel_rfl) Tryz.func29 rfl rfl rfl rfl fun X bl hN => ?_
 unfold zfv at H
 refine zac ?_
 refine zab hN rfl ?_
 refine qe rfl ?_
 refine zac ?_
 refine zab hN rfl ?_
 refine zaa (zah (.ptr _ _) rfl) ?_
 obtain ⟨r2, h3, H⟩ := bnd H
 refine zaa (zak (zjr [97] 64 r2 h3) ⟨.inl rfl, .inl rfl, trivial⟩) ?_
 refine zaa (za4 (u' := vlst (List.map zay [[97, 46, 98], [97, 46, 98], [65, 46, 66], [115, 104, 111, 112, 46, 101, 120, 97, 109, 112, 108, 101], [97, 46, 98, 58, 56, 48], [97, 46, 98, 58, 52, 52, 51], [97, 46, 98, 58, 56, 48, 56, 48], [120, 45, 49, 46, 121], [49, 46, 50, 46, 51, 46, 52], [], [97, 46, 46, 98], [45, 97, 46, 98], [97, 46, 98, 58, 48], [97, 46, 98, 58, 48, 56], [97, 46, 98, 58, 54, 53, 53, 51, 54], [97, 95, 98], [97, 46, 98, 58], [97, 32, 98], r2])) (zcl [[_], [_], [_], [_], [_], [_], [_], [_], [_], [_], [_], [_], [_], [_], [_], [_], [_], [_], [_]] zlg ⟨rfl, .inl ⟨_, rfl, rfl, rfl⟩, rfl, rfl, .inl ⟨_, rfl, rfl, rfl⟩, rfl, rfl, .inl ⟨_, rfl, rfl, rfl⟩, rfl, rfl, .inl ⟨_, rfl, rfl, rfl⟩, rfl, rfl, .inl ⟨_, rfl, rfl, rfl⟩, rfl, rfl, .inl ⟨_, rfl, rfl, rfl⟩, rfl, rfl, .inl ⟨_, rfl, rfl, rfl⟩, rfl, rfl, .inl ⟨_, rfl, rfl, rfl⟩, rfl, rfl, .inl ⟨_, rfl, rfl, rfl⟩, rfl, rfl, .inl ⟨_, rfl, rfl, rfl⟩, rfl, rfl, .inl ⟨_, rfl, rfl, rfl⟩, rfl, rfl, .inl ⟨_, rfl, rfl, rfl⟩, rfl, rfl, .inl ⟨_, rfl, rfl, rfl⟩, rfl, rfl, .inl ⟨_, rfl, rfl, rfl⟩, rfl, rfl, .inl ⟨_, rfl, rfl, rfl⟩, rfl, rfl, .inl ⟨_, rfl, rfl, rfl⟩, rfl, rfl, .inl ⟨_, rfl, rfl, rfl⟩, rfl, rfl, .inl ⟨_, rfl, rfl, rfl⟩, rfl, rfl, .inl ⟨_, rfl, rfl, rfl⟩, rfl, trivial⟩ rfl rfl) rfl) ?_
 obtain ⟨r4, h5, H⟩ := bnd H
 refine zal (zb3 (zbf s1 ([[97, 46, 98], [97, 46, 98], [65, 46, 66], [115, 104, 111, 112, 46, 101, 120, 97, 109, 112, 108, 101], [97, 46, 98, 58, 56, 48], [97, 46, 98, 58, 52, 52, 51], [97, 46, 98, 58, 56, 48, 56, 48], [120, 45, 49, 46, 121], [49, 46, 50, 46, 51, 46, 52], [], [97, 46, 46, 98], [45, 97, 46, 98], [97, 46, 98, 58, 48], [97, 46, 98, 58, 48, 56], [97, 46, 98, 58, 54, 53, 53, 51, 54], [97, 95, 98], [97, 46, 98, 58], [97, 32, 98], r2]) r4 h5) rfl ⟨.inl rfl, trivial⟩ rfl) rfl ?_
 refine qe rfl ?_
 refine zap ?_
 cases H
 exact ⟨trivial, ⟨.inl rfl, trivial⟩, rfl⟩
theorem zl3 (l : List Bs) (sep r : Bs) (H : zc5 l sep = some r) : Fn Tryz.prog 91 [vlst (List.map zay l), vstr sep] (zbe [vstr r]) := by
 obtain ⟨h1, h2, rfl⟩ := z16 H
 refine zin (by kernel_rfl) fun M w vs hM h => ?_
 obtain ⟨hl, hv⟩ := h
 obtain ⟨a, ha, hap⟩ := hv 0 _ rfl
 obtain ⟨s, hs, hsp⟩ := hv 1 _ rfl
 have hsp : s = .string ⟨sep.toArray⟩ := hsp
 subst hsp
 have hvs : vs.toArray = #[a, .string ⟨sep.toArray⟩] := by
  rcases vs with _ | ⟨x, _ | ⟨y, _ | ⟨z, t⟩⟩⟩
  ·cases ha
  ·cases hs
  ·cases ha; cases hs; rfl
  ·simp at hl
 rw [hvs]
 obtain ⟨A, c, q1, q2, q3⟩ := hap
 simp only [List.length_map] at q1 q2
 subst q1
 by_cases hne : l = []
 ·subst hne
  refine (Tryz.strings_Join_none A c ⟨sep.toArray⟩ w).mono ?_
  rintro e w' ⟨rfl, rfl⟩
  exact ⟨_, rfl, rfl, Kp.refl _ _⟩
 ·obtain ⟨b, off, size, rfl, hMb, arr, t, fz, q5, q6, q7⟩ := q3 (by simpa using hne)
  have hsz : size = 1 := by
   cases hq : l with
   | nil => exact absurd hq hne
   | cons x l' => have := q6 (zay x) (by rw [hq]; simp); simpa using this.symm
  subst hsz
  have e1 : ((l.map fun x => ByteArray.mk x.toArray).map (·.data.toList)) = l := by
   rw [List.map_map]
   exact (List.map_congr_left fun x _ => rfl).trans (List.map_id l)
  have hj := Tryz.strings_Join b off c (l.map fun x => ByteArray.mk x.toArray) ⟨sep.toArray⟩ w (fun j x hx => by
   rw [List.getElem?_map] at hx
   cases hq : l[j]? with
   | none => rw [hq] at hx; cases hx
   | some y =>
    rw [hq] at hx
    cases hx
    obtain ⟨v, r1, r2, _⟩ := q7 j 0 (zay y) (vstr y) (by rw [List.getElem?_map, hq]; rfl) rfl
    have r2 : v = .string ⟨y.toArray⟩ := r2
    rw [cell_of_row w b _ _ _ _ q5]
    simp only [Nat.mul_one, Nat.add_zero] at r1
    rw [r1, r2]) (zkz q5) (by simp; omega) (by simpa using q2) (by rw [e1]; simp only; omega)
  rw [List.length_map, e1] at hj
  refine hj.mono ?_
  rintro e w' ⟨rfl, hb⟩
  exact ⟨_, rfl, rfl, Kp.of_below hb⟩
theorem zky (s1 : zad) (many2 : Int) (between3 : Bs) (l4 : (List Bs)) (r : (Bs × zad)) (H : zct s1 many2 between3 l4 = some r) : Imp Tryz.prog 74 25 (zaq s1) [vint many2, vstr between3, vlst (List.map zay l4)] (zbe [vstr r.1]) (zaq r.2) := by
 refine zmz (us := [vstr r.1]) (cs' := (zaq r.2)) (by kernel_rfl) Tryz.func74 rfl rfl rfl rfl fun X bl hN => ?_
 unfold zct at H
 refine zac ?_
 refine zab hN rfl ?_
 refine qe rfl ?_
 refine zac ?_
 refine zab hN rfl ?_
 refine qe rfl ?_
 refine zac ?_
 refine zac ?_
 refine zab hN rfl ?_
 refine qd rfl ?_
 refine qd rfl ?_
 refine zat ?_
 refine zeh 9 1 9 1 rfl rfl rfl ?_
 obtain ⟨h10, H⟩ := gif H
 refine zup (fun (k8 : Nat) (s : (List Int) × Int × (List Bs)) => [(0, .ptr 0 0), (2, .dat (vstr between3)), (3, .dat (vlst (List.map zay l4))), (9, .row 1 s.2.2.length), (10, .dat (vint many2)), (11, .dat (vint (k8 : Int)))]) (fun (k8 : Nat) (s : (List Int) × Int × (List Bs)) => [(0, .box (some bl) 25 [.dat (vlst (List.map zqb s.1)), .dat (vint s.2.1)]), (1, .row 9 1 (List.map zay s.2.2))]) (s1.L, s1.at_, []) H ⟨rfl, rfl, rfl, rfl, rfl, rfl, trivial⟩ ⟨rfl, rfl, trivial⟩ (fun _ _ => rfl) ?_ ?_
 ·rintro ⟨c5, c6, l7⟩ H
  replace H : zgw between3 c5 c6 l7 = some r := H
  unfold zgw at H
  refine zac ?_
  refine zab hN rfl ?_
  refine zaa (za3 rfl rfl) ?_
  refine zac ?_
  refine zai _ rfl (fun h => (z66 h).elim) (fun h => ?_)
  refine zbp ?_
  refine zac ?_
  refine zom 9 1 rfl rfl rfl ?_
  refine zab hN rfl ?_
  refine qd rfl ?_
  refine qd rfl ?_
  obtain ⟨r11, h12, H⟩ := bnd H
  refine zaa (zak (zl3 l7 between3 r11 h12) ⟨.inl rfl, .inl rfl, trivial⟩) ?_
  refine qe rfl ?_
  refine zap ?_
  cases H
  exact ⟨trivial, ⟨.inl rfl, trivial⟩, rfl⟩
 ·rintro k8 ⟨c5, c6, l7⟩ q9 h13 H hq9
  replace H : zgv l4 k8 c5 c6 l7 = some q9 := H
  unfold zgv at H
  refine zac ?_
  refine zab hN rfl ?_
  refine zaa (za3 rfl rfl) ?_
  refine zac ?_
  refine zai _ rfl (fun h => ?_) (fun h => (z67 h13 h).elim)
  refine zan ?_
  refine zac ?_
  refine zat ?_
  refine zab hN rfl ?_
  refine zaa (zah (.row _ _) rfl) ?_
  refine zaa (zah (.ptr _ _) rfl) ?_
  refine qd rfl ?_
  obtain ⟨r14, h15, H⟩ := bnd H
  refine zal (zb3 (zbf (zad.mk c5 c6) l4 r14 h15) rfl ⟨.inl rfl, trivial⟩ rfl) rfl ?_
  refine zaa (za4 (u' := vlst (List.map zay [r14.1])) (zcl [[_]] zlg ⟨rfl, .inl ⟨_, rfl, rfl, rfl⟩, rfl, trivial⟩ rfl rfl) rfl) ?_
  obtain ⟨h16, H⟩ := gif H
  refine zal (zm1 zlg (fun _ => rfl) rfl rfl rfl ⟨by simp, by first | (simp; done) | simpa using h16⟩ rfl) rfl ?_
  refine zaa (zbb (.row _ _) rfl) ?_
  refine zab hN rfl ?_
  refine zaa (zfc rfl rfl (by omega)) ?_
  refine qd rfl ?_
  exact ⟨_, zio H, ⟨rfl, rfl, rfl, rfl, rfl, rfl, trivial⟩, ⟨rfl, rfl, trivial⟩⟩
theorem zoz (s1 : zad) (t2 : Bs) (v3 : Bs) (r : (Bs × zad)) (H : zf9 s1 t2 v3 = some r) : Imp Tryz.prog 75 25 (zaq s1) [vstr t2, vstr v3] (zbe [vstr r.1]) (zaq r.2) := by
 refine zmz (us := [vstr r.1]) (cs' := (zaq r.2)) (by kernel_rfl) Tryz.func75 rfl rfl rfl rfl fun X bl hN => ?_
 unfold zf9 at H
 refine zac ?_
 refine zab hN rfl ?_
 refine qe rfl ?_
 refine zac ?_
 refine zac ?_
 refine zab hN rfl ?_
 refine qd rfl ?_
 refine zaa (zdw rfl rfl) ?_
 refine qd rfl ?_
 refine ziq rfl rfl (fun hc => zah (.dat _) rfl) ?_
 refine ziq rfl rfl (fun hc => zdw (cnd (c := (!(decide (t2 = [])))) hc) rfl) ?_
 refine zaa (zhz rfl rfl (fun hb => (cnd (c := (!(decide (t2 = [])))) (notI hb)))) ?_
 refine zai _ rfl (fun h4 => ?_) (fun h4 => ?_)
 ·replace H := ift h4 H
  refine zac ?_
  refine zab hN rfl ?_
  refine qd rfl ?_
  refine qe rfl ?_
  refine zap ?_
  cases H
  exact ⟨trivial, ⟨.inl rfl, trivial⟩, rfl⟩
 ·replace H := iff_ h4 H
  refine zan ?_
  refine zac ?_
  refine zab hN rfl ?_
  refine zaa (zah (.ptr _ _) rfl) ?_
  refine qd rfl ?_
  refine zaa (za5 tyU9 rfl) ?_
  obtain ⟨r5, h6, H⟩ := bnd H
  refine zal (zb3 (zdo s1 (t2.length : Int) r5 h6) rfl ⟨.inl rfl, trivial⟩ rfl) rfl ?_
  refine qe rfl ?_
  refine zac ?_
  refine zab hN rfl ?_
  refine qd rfl ?_
  refine zaa (zah (.ptr _ _) rfl) ?_
  refine qd rfl ?_
  refine zaa (za5 tyU9 rfl) ?_
  obtain ⟨r7, h8, H⟩ := bnd H
  refine zal (zb3 (zdo r5.2 (v3.length : Int) r7 h8) rfl ⟨.inl rfl, trivial⟩ rfl) rfl ?_
  obtain ⟨x9, h10, H⟩ := bnd H
  refine zaa (zli tyU9 rfl rfl h10) ?_
  refine qe rfl ?_
  refine zac ?_
  refine zac ?_
  refine zab hN rfl ?_
  refine zaa (zah (.ptr _ _) rfl) ?_
  obtain ⟨r11, h12, H⟩ := bnd H
  refine zal (zb3 (zdo r7.2 3 r11 h12) rfl ⟨.inl rfl, trivial⟩ rfl) rfl ?_
  refine zat ?_
  refine zac ?_
  refine zab hN rfl ?_
  refine zaa (zb6 rfl rfl) ?_
  refine qe rfl ?_
  refine zai _ rfl (fun h13 => ?_) (fun h13 => ?_)
  ·replace H := ift h13 H
   refine zac ?_
   refine zik mixed hN rfl rfl ?_
   refine qd rfl ?_
   refine qd rfl ?_
   obtain ⟨l14, h15, H⟩ := bnd H
   refine zaa (zl0 tyU9 rfl rfl rfl h15) ?_
   refine qd rfl ?_
   refine zaa (zih tyU5 zz4 rfl) ?_
   refine zaa (zt1 zz4 rfl tyU9 rfl) ?_
   obtain ⟨h16, H⟩ := gif H
   refine zaa (zht rfl rfl (Nat.le_trans h16 (by decide))) ?_
   refine qd rfl ?_
   refine qd rfl ?_
   refine zaa (za8 _ rfl rfl (.inl ⟨rfl, rfl⟩)) ?_
   obtain ⟨l17, h18, H⟩ := bnd H
   refine zaa (zl0 tyU9 rfl rfl rfl h18) ?_
   obtain ⟨h19, H⟩ := gif H
   refine zaa (zht rfl rfl (Nat.le_trans h19 (by decide))) ?_
   refine qe rfl ?_
   refine ⟨rfl, ?_⟩
   refine zap ?_
   cases H
   exact ⟨trivial, ⟨.inl rfl, trivial⟩, rfl⟩
  ·replace H := iff_ h13 H
   refine zac ?_
   refine zab hN rfl ?_
   refine zaa (zb6 rfl rfl) ?_
   refine qe rfl ?_
   refine zai _ rfl (fun h20 => ?_) (fun h20 => ?_)
   ·replace H := ift h20 H
    refine zac ?_
    refine zik mixed hN rfl rfl ?_
    refine qd rfl ?_
    refine qd rfl ?_
    obtain ⟨l21, h22, H⟩ := bnd H
    refine zaa (zl0 tyU9 rfl rfl rfl h22) ?_
    refine qd rfl ?_
    refine zaa (zih tyU5 zz4 rfl) ?_
    refine zaa (zt1 zz4 rfl tyU9 rfl) ?_
    obtain ⟨h23, H⟩ := gif H
    refine zaa (zht rfl rfl (Nat.le_trans h23 (by decide))) ?_
    refine qd rfl ?_
    refine qd rfl ?_
    obtain ⟨l24, h25, H⟩ := bnd H
    refine zaa (zl0 tyU9 rfl rfl rfl h25) ?_
    obtain ⟨h26, H⟩ := gif H
    refine zaa (zht rfl rfl (Nat.le_trans h26 (by decide))) ?_
    refine qe rfl ?_
    refine ⟨rfl, ?_⟩
    refine zap ?_
    cases H
    exact ⟨trivial, ⟨.inl rfl, trivial⟩, rfl⟩
   ·replace H := iff_ h20 H
    refine zan ?_
    refine zac ?_
    refine zik mixed hN rfl rfl ?_
    refine qd rfl ?_
    refine qd rfl ?_
    obtain ⟨l27, h28, H⟩ := bnd H
    refine zaa (zl0 tyU9 rfl rfl rfl h28) ?_
    refine qd rfl ?_
    refine qd rfl ?_
    refine zaa (za8 _ rfl rfl (.inl ⟨rfl, rfl⟩)) ?_
    obtain ⟨l29, h30, H⟩ := bnd H
    refine zaa (zl0 tyU9 rfl rfl rfl h30) ?_
    obtain ⟨h31, H⟩ := gif H
    refine zaa (zht rfl rfl (Nat.le_trans h31 (by decide))) ?_
    refine qe rfl ?_
    refine ⟨rfl, ?_⟩
    refine zap ?_
    cases H
    exact ⟨trivial, ⟨.inl rfl, trivial⟩, rfl⟩
theorem zok (s1 : zad) (r : (Bs × zad)) (H : zfu s1 = some r) : Imp Tryz.prog 30 25 (zaq s1) [] (zbe [vstr r.1]) (zaq r.2) := by
 refine zmz (us := [vstr r.1]) (cs' := (zaq r.2)) (by kernel_rfl) Tryz.func30 rfl rfl rfl rfl fun X bl hN => ?_
 unfold zfu at H
 refine zac ?_
 refine zab hN rfl ?_
 refine qe rfl ?_
 refine zac ?_
 refine zab hN rfl ?_
 refine zaa (zah (.ptr _ _) rfl) ?_
 refine zaa (zah (.ptr _ _) rfl) ?_
 obtain ⟨r2, h3, H⟩ := bnd H
 refine zal (zb3 (zhd s1 0 4 r2 h3) rfl ⟨.inl rfl, .inl rfl, trivial⟩ rfl) rfl ?_
 refine zaa (za4 (u' := vlst (List.map zay [[97], [98], [37, 52, 49], [37, 50, 102], [37, 55, 101], [46], [46, 46], [], [120, 59, 121], [99, 37, 50, 48, 100], [37, 99, 51, 37, 97, 52], [65], [97, 46, 98], [126]])) (zcl [[_], [_], [_], [_], [_], [_], [_], [_], [_], [_], [_], [_], [_], [_]] zlg ⟨rfl, .inl ⟨_, rfl, rfl, rfl⟩, rfl, rfl, .inl ⟨_, rfl, rfl, rfl⟩, rfl, rfl, .inl ⟨_, rfl, rfl, rfl⟩, rfl, rfl, .inl ⟨_, rfl, rfl, rfl⟩, rfl, rfl, .inl ⟨_, rfl, rfl, rfl⟩, rfl, rfl, .inl ⟨_, rfl, rfl, rfl⟩, rfl, rfl, .inl ⟨_, rfl, rfl, rfl⟩, rfl, rfl, .inl ⟨_, rfl, rfl, rfl⟩, rfl, rfl, .inl ⟨_, rfl, rfl, rfl⟩, rfl, rfl, .inl ⟨_, rfl, rfl, rfl⟩, rfl, rfl, .inl ⟨_, rfl, rfl, rfl⟩, rfl, rfl, .inl ⟨_, rfl, rfl, rfl⟩, rfl, rfl, .inl ⟨_, rfl, rfl, rfl⟩, rfl, rfl, .inl ⟨_, rfl, rfl, rfl⟩, rfl, trivial⟩ rfl rfl) rfl) ?_
 obtain ⟨r4, h5, H⟩ := bnd H
 refine zal (zb3 (zky r2.2 r2.1 [47] ([[97], [98], [37, 52, 49], [37, 50, 102], [37, 55, 101], [46], [46, 46], [], [120, 59, 121], [99, 37, 50, 48, 100], [37, 99, 51, 37, 97, 52], [65], [97, 46, 98], [126]]) r4 h5) rfl ⟨.inl rfl, .inl rfl, .inl rfl, trivial⟩ rfl) rfl ?_
 obtain ⟨h6, H⟩ := gif H
 refine zaa (zht rfl rfl (Nat.le_trans h6 (by decide))) ?_
 refine qe rfl ?_
 refine zax (ι := Bs × (List Int) × Int) (fun i => [(0, .ptr 0 0), (3, .dat (vstr i.1))]) (fun i => [(0, .box (some bl) 25 [.dat (vlst (List.map zqb i.2.1)), .dat (vint i.2.2)])]) (fun i => zc2 i.1 i.2.1 i.2.2 = some r) (fun i => rfl) ?_ ?_
 ·skip
  refine zac ?_
  refine zab hN rfl ?_
  refine zaa (zah (.ptr _ _) rfl) ?_
  obtain ⟨r7, h8, H⟩ := bnd H
  refine zal (zb3 (zdp r4.2 12 r7 h8) rfl ⟨.inl rfl, trivial⟩ rfl) rfl ?_
  refine zai _ rfl (fun h9 => ?_) (fun h9 => ?_)
  ·replace H := ift h9 H
   refine zab hN rfl ?_
   refine zaa (zah (.ptr _ _) rfl) ?_
   obtain ⟨r10, h11, H⟩ := bnd H
   refine zaa (zak (zjr [37, 50, 48] 340 r10 h11) ⟨.inl rfl, .inl rfl, trivial⟩) ?_
   obtain ⟨h12, H⟩ := gif H
   refine zaa (zht rfl rfl (Nat.le_trans h12 (by decide))) ?_
   refine zaa (za4 (u' := vlst (List.map zay [[], [97], [47, 97, 63, 98], [47, 97, 35], [47, 37], [47, 37, 52], [47, 37, 122, 122], [47, 127], [47, 97, 32, 98], ([47] ++ r10)])) (zcl [[_], [_], [_], [_], [_], [_], [_], [_], [_], [_]] zlg ⟨rfl, .inl ⟨_, rfl, rfl, rfl⟩, rfl, rfl, .inl ⟨_, rfl, rfl, rfl⟩, rfl, rfl, .inl ⟨_, rfl, rfl, rfl⟩, rfl, rfl, .inl ⟨_, rfl, rfl, rfl⟩, rfl, rfl, .inl ⟨_, rfl, rfl, rfl⟩, rfl, rfl, .inl ⟨_, rfl, rfl, rfl⟩, rfl, rfl, .inl ⟨_, rfl, rfl, rfl⟩, rfl, rfl, .inl ⟨_, rfl, rfl, rfl⟩, rfl, rfl, .inl ⟨_, rfl, rfl, rfl⟩, rfl, rfl, .inl ⟨_, rfl, rfl, rfl⟩, rfl, trivial⟩ rfl rfl) rfl) ?_
   obtain ⟨r13, h14, H⟩ := bnd H
   refine zal (zb3 (zbf r7.2 ([[], [97], [47, 97, 63, 98], [47, 97, 35], [47, 37], [47, 37, 52], [47, 37, 122, 122], [47, 127], [47, 97, 32, 98], ([47] ++ r10)]) r13 h14) rfl ⟨.inl rfl, trivial⟩ rfl) rfl ?_
   refine qe rfl ?_
   exact ⟨(r13.1, r13.2.L, r13.2.at_), H, ⟨rfl, rfl, trivial⟩, ⟨rfl, trivial⟩⟩
  ·replace H := iff_ h9 H
   refine zan ?_
   exact ⟨(([47] ++ r4.1), r7.2.L, r7.2.at_), H, ⟨rfl, rfl, trivial⟩, ⟨rfl, trivial⟩⟩
 ·rintro ⟨p15, c16, c17⟩ H
  replace H : zc2 p15 c16 c17 = some r := H
  unfold zc2 at H
  refine zax (ι := Bs × (List Int) × Int) (fun i => [(3, .dat (vstr i.1))]) (fun i => [(0, .box (some bl) 25 [.dat (vlst (List.map zqb i.2.1)), .dat (vint i.2.2)])]) (fun i => zdu i.1 i.2.1 i.2.2 = some r) (fun i => rfl) ?_ ?_
  ·skip
   refine zac ?_
   refine zab hN rfl ?_
   refine zaa (zah (.ptr _ _) rfl) ?_
   obtain ⟨r18, h19, H⟩ := bnd H
   refine zal (zb3 (zdp (zad.mk c16 c17) 12 r18 h19) rfl ⟨.inl rfl, trivial⟩ rfl) rfl ?_
   refine zai _ rfl (fun h20 => ?_) (fun h20 => ?_)
   ·replace H := ift h20 H
    refine zab hN rfl ?_
    refine zaa (zah (.ptr _ _) rfl) ?_
    refine qd rfl ?_
    obtain ⟨r21, h22, H⟩ := bnd H
    refine zal (zb3 (zoz r18.2 p15 [47, 46, 37, 50, 102, 65] r21 h22) rfl ⟨.inl rfl, .inl rfl, trivial⟩ rfl) rfl ?_
    refine qe rfl ?_
    exact ⟨(r21.1, r21.2.L, r21.2.at_), H, ⟨rfl, trivial⟩, ⟨rfl, trivial⟩⟩
   ·replace H := iff_ h20 H
    refine zan ?_
    exact ⟨(p15, r18.2.L, r18.2.at_), H, ⟨rfl, trivial⟩, ⟨rfl, trivial⟩⟩
  ·rintro ⟨p23, c24, c25⟩ H
   replace H : zdu p23 c24 c25 = some r := H
   unfold zdu at H
   refine zac ?_
   refine zab hN rfl ?_
   refine qd rfl ?_
   refine qe rfl ?_
   refine zap ?_
   cases H
   exact ⟨trivial, ⟨.inl rfl, trivial⟩, rfl⟩
theorem zoj (s1 : zad) (r : (Bs × zad)) (H : zfl s1 = some r) : Imp Tryz.prog 31 25 (zaq s1) [] (zbe [vstr r.1]) (zaq r.2) := by
 refine zmz (us := [vstr r.1]) (cs' := (zaq r.2)) (by kernel_rfl) Tryz.func31 rfl rfl rfl rfl fun X bl hN => ?_
 unfold zfl at H
 refine zac ?_
 refine zab hN rfl ?_
 refine qe rfl ?_
 refine zac ?_
 refine zab hN rfl ?_
 refine zaa (zah (.ptr _ _) rfl) ?_
 refine zaa (zah (.ptr _ _) rfl) ?_
 obtain ⟨r2, h3, H⟩ := bnd H
 refine zal (zb3 (zhd s1 0 4 r2 h3) rfl ⟨.inl rfl, .inl rfl, trivial⟩ rfl) rfl ?_
 refine zaa (za4 (u' := vlst (List.map zay [[97, 61, 49], [98, 61, 50], [97, 61], [61, 120], [61], [99], [], [97, 61, 37, 52, 49, 43, 37, 50, 66], [100, 61, 120, 37, 50, 54, 121], [98, 61, 37, 99, 51], [97, 61, 49, 61, 50], [97, 63, 98, 61, 47]])) (zcl [[_], [_], [_], [_], [_], [_], [_], [_], [_], [_], [_], [_]] zlg ⟨rfl, .inl ⟨_, rfl, rfl, rfl⟩, rfl, rfl, .inl ⟨_, rfl, rfl, rfl⟩, rfl, rfl, .inl ⟨_, rfl, rfl, rfl⟩, rfl, rfl, .inl ⟨_, rfl, rfl, rfl⟩, rfl, rfl, .inl ⟨_, rfl, rfl, rfl⟩, rfl, rfl, .inl ⟨_, rfl, rfl, rfl⟩, rfl, rfl, .inl ⟨_, rfl, rfl, rfl⟩, rfl, rfl, .inl ⟨_, rfl, rfl, rfl⟩, rfl, rfl, .inl ⟨_, rfl, rfl, rfl⟩, rfl, rfl, .inl ⟨_, rfl, rfl, rfl⟩, rfl, rfl, .inl ⟨_, rfl, rfl, rfl⟩, rfl, rfl, .inl ⟨_, rfl, rfl, rfl⟩, rfl, trivial⟩ rfl rfl) rfl) ?_
 obtain ⟨r4, h5, H⟩ := bnd H
 refine zal (zb3 (zky r2.2 r2.1 [38] ([[97, 61, 49], [98, 61, 50], [97, 61], [61, 120], [61], [99], [], [97, 61, 37, 52, 49, 43, 37, 50, 66], [100, 61, 120, 37, 50, 54, 121], [98, 61, 37, 99, 51], [97, 61, 49, 61, 50], [97, 63, 98, 61, 47]]) r4 h5) rfl ⟨.inl rfl, .inl rfl, .inl rfl, trivial⟩ rfl) rfl ?_
 refine qe rfl ?_
 refine zax (ι := Bs × (List Int) × Int) (fun i => [(3, .dat (vstr i.1))]) (fun i => [(0, .box (some bl) 25 [.dat (vlst (List.map zqb i.2.1)), .dat (vint i.2.2)])]) (fun i => zdk i.1 i.2.1 i.2.2 = some r) (fun i => rfl) ?_ ?_
 ·skip
  refine zac ?_
  refine zab hN rfl ?_
  refine zaa (zah (.ptr _ _) rfl) ?_
  obtain ⟨r6, h7, H⟩ := bnd H
  refine zal (zb3 (zdp r4.2 12 r6 h7) rfl ⟨.inl rfl, trivial⟩ rfl) rfl ?_
  refine zai _ rfl (fun h8 => ?_) (fun h8 => ?_)
  ·replace H := ift h8 H
   refine zab hN rfl ?_
   refine zaa (zah (.ptr _ _) rfl) ?_
   refine zaa (zah (.ptr _ _) rfl) ?_
   refine zaa (za4 (u' := vlst (List.map zay [[120]])) (zcl [[_]] zlg ⟨rfl, .inl ⟨_, rfl, rfl, rfl⟩, rfl, trivial⟩ rfl rfl) rfl) ?_
   obtain ⟨r9, h10, H⟩ := bnd H
   refine zal (zb3 (zky r6.2 101 [38] ([[120]]) r9 h10) rfl ⟨.inl rfl, .inl rfl, .inl rfl, trivial⟩ rfl) rfl ?_
   refine zaa (za4 (u' := vlst (List.map zay [[35], [97, 37], [37, 103, 49, 61, 50], [97, 32, 98], [128], r9.1])) (zcl [[_], [_], [_], [_], [_], [_]] zlg ⟨rfl, .inl ⟨_, rfl, rfl, rfl⟩, rfl, rfl, .inl ⟨_, rfl, rfl, rfl⟩, rfl, rfl, .inl ⟨_, rfl, rfl, rfl⟩, rfl, rfl, .inl ⟨_, rfl, rfl, rfl⟩, rfl, rfl, .inl ⟨_, rfl, rfl, rfl⟩, rfl, rfl, .inl ⟨_, rfl, rfl, rfl⟩, rfl, trivial⟩ rfl rfl) rfl) ?_
   obtain ⟨r11, h12, H⟩ := bnd H
   refine zal (zb3 (zbf r9.2 ([[35], [97, 37], [37, 103, 49, 61, 50], [97, 32, 98], [128], r9.1]) r11 h12) rfl ⟨.inl rfl, trivial⟩ rfl) rfl ?_
   refine qe rfl ?_
   exact ⟨(r11.1, r11.2.L, r11.2.at_), H, ⟨rfl, trivial⟩, ⟨rfl, trivial⟩⟩
  ·replace H := iff_ h8 H
   refine zan ?_
   exact ⟨(r4.1, r6.2.L, r6.2.at_), H, ⟨rfl, trivial⟩, ⟨rfl, trivial⟩⟩
 ·rintro ⟨q13, c14, c15⟩ H
  replace H : zdk q13 c14 c15 = some r := H
  unfold zdk at H
  refine zac ?_
  refine zab hN rfl ?_
  refine qd rfl ?_
  refine qe rfl ?_
  refine zap ?_
  cases H
  exact ⟨trivial, ⟨.inl rfl, trivial⟩, rfl⟩
theorem zjo (s1 : zad) (r : (Bs × zad)) (H : zc1 s1 = some r) : Imp Tryz.prog 7 25 (zaq s1) [] (zbe [vstr r.1]) (zaq r.2) := by
 refine zmz (us := [vstr r.1]) (cs' := (zaq r.2)) (by kernel_rfl) Tryz.func7 rfl rfl rfl rfl fun X bl hN => ?_
 unfold zc1 at H
 refine zac ?_
 refine zab hN rfl ?_
 refine qe rfl ?_
 refine zac ?_
 refine zab hN rfl ?_
 refine zaa (zah (.ptr _ _) rfl) ?_
 obtain ⟨r2, h3, H⟩ := bnd H
 refine zaa (zak (zjr [118] 2001 r2 h3) ⟨.inl rfl, .inl rfl, trivial⟩) ?_
 refine zaa (za4 (u' := vlst (List.map zay [[49], [120], [97, 44, 32, 98], [], [116, 101, 120, 116, 47, 104, 116, 109, 108], [99, 108, 111, 115, 101], [120, 45, 111, 110, 101], [103, 119, 44, 32, 98], [49, 46, 50, 46, 51, 46, 52, 44, 32, 53, 46, 54, 46, 55, 46, 56], [32, 120], [120, 32], [97, 9, 98], [128], r2])) (zcl [[_], [_], [_], [_], [_], [_], [_], [_], [_], [_], [_], [_], [_], [_]] zlg ⟨rfl, .inl ⟨_, rfl, rfl, rfl⟩, rfl, rfl, .inl ⟨_, rfl, rfl, rfl⟩, rfl, rfl, .inl ⟨_, rfl, rfl, rfl⟩, rfl, rfl, .inl ⟨_, rfl, rfl, rfl⟩, rfl, rfl, .inl ⟨_, rfl, rfl, rfl⟩, rfl, rfl, .inl ⟨_, rfl, rfl, rfl⟩, rfl, rfl, .inl ⟨_, rfl, rfl, rfl⟩, rfl, rfl, .inl ⟨_, rfl, rfl, rfl⟩, rfl, rfl, .inl ⟨_, rfl, rfl, rfl⟩, rfl, rfl, .inl ⟨_, rfl, rfl, rfl⟩, rfl, rfl, .inl ⟨_, rfl, rfl, rfl⟩, rfl, rfl, .inl ⟨_, rfl, rfl, rfl⟩, rfl, rfl, .inl ⟨_, rfl, rfl, rfl⟩, rfl, rfl, .inl ⟨_, rfl, rfl, rfl⟩, rfl, trivial⟩ rfl rfl) rfl) ?_
 obtain ⟨r4, h5, H⟩ := bnd H
 refine zal (zb3 (zbf s1 ([[49], [120], [97, 44, 32, 98], [], [116, 101, 120, 116, 47, 104, 116, 109, 108], [99, 108, 111, 115, 101], [120, 45, 111, 110, 101], [103, 119, 44, 32, 98], [49, 46, 50, 46, 51, 46, 52, 44, 32, 53, 46, 54, 46, 55, 46, 56], [32, 120], [120, 32], [97, 9, 98], [128], r2]) r4 h5) rfl ⟨.inl rfl, trivial⟩ rfl) rfl ?_
 refine qe rfl ?_
 refine zap ?_
 cases H
 exact ⟨trivial, ⟨.inl rfl, trivial⟩, rfl⟩
theorem zm6 (s1 : zad) (most2 : Int) (r : ((List zaf) × zad)) (H : zb4 s1 most2 = some r) : FnG Tryz.prog 34 [.ptr 0 0, .dat (vint most2)] [(0, .box (some 0) 25 (List.map .dat (zaq s1)))] (.row 1 r.1.length) [(0, .box (some 0) 25 (List.map .dat (zaq r.2))), (1, .row 52 2 (List.map zao r.1))] := by
 refine zpe (by kernel_rfl) Tryz.func34 rfl rfl rfl rfl fun X A hN => ?_
 unfold zb4 at H
 refine zac ?_
 refine zab hN rfl ?_
 refine qe rfl ?_
 refine zac ?_
 refine zab hN rfl ?_
 refine qe rfl ?_
 refine zac ?_
 refine zac ?_
 refine zab hN rfl ?_
 refine zaa (zah (.ptr _ _) rfl) ?_
 refine qd rfl ?_
 obtain ⟨r3, h4, H⟩ := bnd H
 refine zal (zb3 (zhd s1 0 most2 r3 h4) rfl ⟨.inl rfl, .inl rfl, trivial⟩ rfl) rfl ?_
 refine qd rfl ?_
 refine zat ?_
 refine zeh 5 1 52 2 rfl rfl rfl ?_
 obtain ⟨h10, H⟩ := gif H
 refine zup (fun (k8 : Nat) (s : (List Int) × Int × (List zaf)) => [(0, .ptr 0 0), (5, .row 1 s.2.2.length), (8, .dat (vint r3.1)), (9, .dat (vint (k8 : Int)))]) (fun (k8 : Nat) (s : (List Int) × Int × (List zaf)) => [(0, .box (some (A.bl 0)) 25 [.dat (vlst (List.map zqb s.1)), .dat (vint s.2.1)]), (1, .row 52 2 (List.map zao s.2.2))]) (r3.2.L, r3.2.at_, []) H ⟨rfl, rfl, rfl, rfl, trivial⟩ ⟨rfl, rfl, trivial⟩ (fun _ _ => rfl) ?_ ?_
 ·rintro ⟨c5, c6, l7⟩ H
  replace H : zcz c5 c6 l7 = some r := H
  unfold zcz at H
  refine zac ?_
  refine zab hN rfl ?_
  refine zaa (za3 rfl rfl) ?_
  refine zac ?_
  refine zai _ rfl (fun h => (z66 h).elim) (fun h => ?_)
  refine zbp ?_
  refine zac ?_
  refine zab hN rfl ?_
  refine zaa (zah (.row _ _) rfl) ?_
  refine zaa (zbb (.row _ _) rfl) ?_
  refine zap ?_
  cases H
  exact ⟨trivial, [(4, .row 1 _)], ⟨rfl, trivial⟩, ⟨rfl, rfl, trivial⟩, rfl, .inr (.inl ⟨4, rfl, rfl⟩)⟩
 ·rintro k8 ⟨c5, c6, l7⟩ q9 h11 H hq9
  replace H : zcy k8 c5 c6 l7 = some q9 := H
  unfold zcy at H
  refine zac ?_
  refine zab hN rfl ?_
  refine zaa (za3 rfl rfl) ?_
  refine zac ?_
  refine zai _ rfl (fun h => ?_) (fun h => (z67 h11 h).elim)
  refine zan ?_
  refine zac ?_
  refine zat ?_
  refine zab hN rfl ?_
  refine zaa (zah (.row _ _) rfl) ?_
  refine zaa (zah (.ptr _ _) rfl) ?_
  refine zaa (za4 (u' := vlst (List.map zay [[97, 99, 99, 101, 112, 116], [65, 99, 99, 101, 112, 116], [120, 45, 111, 110, 101], [88, 45, 84, 119, 111], [99, 111, 111, 107, 105, 101], [118, 97, 114, 121], [99, 111, 110, 110, 101, 99, 116, 105, 111, 110], [120, 45, 102, 111, 114, 119, 97, 114, 100, 101, 100, 45, 102, 111, 114], [118, 105, 97], [120, 45, 102, 111, 114, 119, 97, 114, 100, 101, 100, 45, 104, 111, 115, 116], [116, 101]])) (zcl [[_], [_], [_], [_], [_], [_], [_], [_], [_], [_], [_]] zlg ⟨rfl, .inl ⟨_, rfl, rfl, rfl⟩, rfl, rfl, .inl ⟨_, rfl, rfl, rfl⟩, rfl, rfl, .inl ⟨_, rfl, rfl, rfl⟩, rfl, rfl, .inl ⟨_, rfl, rfl, rfl⟩, rfl, rfl, .inl ⟨_, rfl, rfl, rfl⟩, rfl, rfl, .inl ⟨_, rfl, rfl, rfl⟩, rfl, rfl, .inl ⟨_, rfl, rfl, rfl⟩, rfl, rfl, .inl ⟨_, rfl, rfl, rfl⟩, rfl, rfl, .inl ⟨_, rfl, rfl, rfl⟩, rfl, rfl, .inl ⟨_, rfl, rfl, rfl⟩, rfl, rfl, .inl ⟨_, rfl, rfl, rfl⟩, rfl, trivial⟩ rfl rfl) rfl) ?_
  obtain ⟨r12, h13, H⟩ := bnd H
  refine zal (zb3 (zbf (zad.mk c5 c6) ([[97, 99, 99, 101, 112, 116], [65, 99, 99, 101, 112, 116], [120, 45, 111, 110, 101], [88, 45, 84, 119, 111], [99, 111, 111, 107, 105, 101], [118, 97, 114, 121], [99, 111, 110, 110, 101, 99, 116, 105, 111, 110], [120, 45, 102, 111, 114, 119, 97, 114, 100, 101, 100, 45, 102, 111, 114], [118, 105, 97], [120, 45, 102, 111, 114, 119, 97, 114, 100, 101, 100, 45, 104, 111, 115, 116], [116, 101]]) r12 h13) rfl ⟨.inl rfl, trivial⟩ rfl) rfl ?_
  refine zaa (zah (.ptr _ _) rfl) ?_
  refine zaa (za4 (u' := vlst (List.map zay [[49], [120], [97, 44, 32, 98], [], [120, 45, 111, 110, 101, 44, 32, 99, 108, 111, 115, 101], [103, 119], [49, 46, 50, 46, 51, 46, 52], [53, 46, 54, 46, 55, 46, 56, 44, 32, 57, 46, 57, 46, 57, 46, 57]])) (zcl [[_], [_], [_], [_], [_], [_], [_], [_]] zlg ⟨rfl, .inl ⟨_, rfl, rfl, rfl⟩, rfl, rfl, .inl ⟨_, rfl, rfl, rfl⟩, rfl, rfl, .inl ⟨_, rfl, rfl, rfl⟩, rfl, rfl, .inl ⟨_, rfl, rfl, rfl⟩, rfl, rfl, .inl ⟨_, rfl, rfl, rfl⟩, rfl, rfl, .inl ⟨_, rfl, rfl, rfl⟩, rfl, rfl, .inl ⟨_, rfl, rfl, rfl⟩, rfl, rfl, .inl ⟨_, rfl, rfl, rfl⟩, rfl, trivial⟩ rfl rfl) rfl) ?_
  obtain ⟨r14, h15, H⟩ := bnd H
  refine zal (zb3 (zbf r12.2 ([[49], [120], [97, 44, 32, 98], [], [120, 45, 111, 110, 101, 44, 32, 99, 108, 111, 115, 101], [103, 119], [49, 46, 50, 46, 51, 46, 52], [53, 46, 54, 46, 55, 46, 56, 44, 32, 57, 46, 57, 46, 57, 46, 57]]) r14 h15) rfl ⟨.inl rfl, trivial⟩ rfl) rfl ?_
  refine zaa (za4 (u' := vagg (zao (zaf.mk r12.1 r14.1))) (zd5 [(0, [vstr r12.1]), (1, [vstr r14.1])] zp4 zvj rfl ⟨rfl, .inl ⟨_, rfl, rfl, rfl⟩, rfl, rfl, .inl ⟨_, rfl, rfl, rfl⟩, rfl, trivial⟩) rfl) ?_
  refine zaa (za4 (u' := vlst (List.map zao [(zaf.mk r12.1 r14.1)])) (zcl [_] zob ⟨rfl, .inr rfl, rfl, trivial⟩ rfl rfl) rfl) ?_
  obtain ⟨h16, H⟩ := gif H
  refine zal (zm1 zob (fun _ => rfl) rfl rfl rfl ⟨by simp, by first | (simp; done) | simpa using h16⟩ rfl) rfl ?_
  refine zaa (zbb (.row _ _) rfl) ?_
  refine zab hN rfl ?_
  refine zaa (zfc rfl rfl (by omega)) ?_
  refine qd rfl ?_
  exact ⟨_, zio H, ⟨rfl, rfl, rfl, rfl, trivial⟩, ⟨rfl, rfl, trivial⟩⟩
theorem zl4 (s1 : zad) (most2 : Int) (r : ((List zaf) × zad)) (H : zeg s1 most2 = some r) : Imp Tryz.prog 5 25 (zaq s1) [vint most2] (zbe [vlst (List.map zao r.1)]) (zaq r.2) := by
 refine zmz (us := [vlst (List.map zao r.1)]) (cs' := (zaq r.2)) (by kernel_rfl) Tryz.func5 rfl rfl rfl rfl fun X bl hN => ?_
 unfold zeg at H
 refine zac ?_
 refine zab hN rfl ?_
 refine qe rfl ?_
 refine zac ?_
 refine zab hN rfl ?_
 refine zaa (zah (.ptr _ _) rfl) ?_
 refine qd rfl ?_
 obtain ⟨r3, h4, H⟩ := bnd H
 refine zcv (rn [(0, 0), (1, 1)]) [(0, _, _, some _)] [(1, _)] (zm6 s1 most2 r3 h4) ⟨rfl, rfl, trivial⟩ ⟨.inl (.inl rfl), .inl (.inl rfl), trivial⟩ ⟨⟨⟨rfl, rfl⟩, trivial⟩, trivial⟩ rfl ?_
 refine zaa (zbb (.row _ _) rfl) ?_
 refine zax (ι := (List zaf) × (List Int) × Int) (fun i => [(0, .ptr 0 0), (5, .row 1 i.1.length)]) (fun i => [(0, .box (some bl) 25 [.dat (vlst (List.map zqb i.2.1)), .dat (vint i.2.2)]), (1, .row 52 2 (List.map zao i.1))]) (fun i => zc8 i.1 i.2.1 i.2.2 = some r) (fun i => rfl) ?_ ?_
 ·skip
  refine zac ?_
  refine zab hN rfl ?_
  refine zaa (zah (.ptr _ _) rfl) ?_
  obtain ⟨r5, h6, H⟩ := bnd H
  refine zal (zb3 (zdp r3.2 10 r5 h6) rfl ⟨.inl rfl, trivial⟩ rfl) rfl ?_
  refine zai _ rfl (fun h7 => ?_) (fun h7 => ?_)
  ·replace H := ift h7 H
   refine zab hN rfl ?_
   refine zaa (zah (.row _ _) rfl) ?_
   refine zaa (zah (.ptr _ _) rfl) ?_
   obtain ⟨r8, h9, H⟩ := bnd H
   refine zal (zb3 (zjn r5.2 r8 h9) rfl trivial rfl) rfl ?_
   refine zaa (zah (.ptr _ _) rfl) ?_
   obtain ⟨r10, h11, H⟩ := bnd H
   refine zal (zb3 (zjo r8.2 r10 h11) rfl trivial rfl) rfl ?_
   refine zaa (za4 (u' := vagg (zao (zaf.mk r8.1 r10.1))) (zd5 [(0, [vstr r8.1]), (1, [vstr r10.1])] zp4 zvj rfl ⟨rfl, .inl ⟨_, rfl, rfl, rfl⟩, rfl, rfl, .inl ⟨_, rfl, rfl, rfl⟩, rfl, trivial⟩) rfl) ?_
   refine zaa (za4 (u' := vlst (List.map zao [(zaf.mk r8.1 r10.1)])) (zcl [_] zob ⟨rfl, .inr rfl, rfl, trivial⟩ rfl rfl) rfl) ?_
   obtain ⟨h12, H⟩ := gif H
   refine zal (zm1 zob (fun _ => rfl) rfl rfl rfl ⟨by simp, by first | (simp; done) | simpa using h12⟩ rfl) rfl ?_
   refine zaa (zbb (.row _ _) rfl) ?_
   exact ⟨((r3.1 ++ [(zaf.mk r8.1 r10.1)]), r10.2.L, r10.2.at_), H, ⟨rfl, rfl, trivial⟩, ⟨rfl, rfl, trivial⟩⟩
  ·replace H := iff_ h7 H
   refine zan ?_
   exact ⟨(r3.1, r5.2.L, r5.2.at_), H, ⟨rfl, rfl, trivial⟩, ⟨rfl, rfl, trivial⟩⟩
 ·rintro ⟨out13, c14, c15⟩ H
  replace H : zc8 out13 c14 c15 = some r := H
  unfold zc8 at H
  refine zax (ι := (List zaf) × (List Int) × Int) (fun i => [(5, .row 1 i.1.length)]) (fun i => [(0, .box (some bl) 25 [.dat (vlst (List.map zqb i.2.1)), .dat (vint i.2.2)]), (1, .row 52 2 (List.map zao i.1))]) (fun i => zc7 i.1 i.2.1 i.2.2 = some r) (fun i => rfl) ?_ ?_
  ·skip
   refine zac ?_
   refine zab hN rfl ?_
   refine zaa (zah (.ptr _ _) rfl) ?_
   obtain ⟨r16, h17, H⟩ := bnd H
   refine zal (zb3 (zdp (zad.mk c14 c15) 60 r16 h17) rfl ⟨.inl rfl, trivial⟩ rfl) rfl ?_
   refine zai _ rfl (fun h18 => ?_) (fun h18 => ?_)
   ·replace H := ift h18 H
    refine zac ?_
    refine zab hN rfl ?_
    refine qd rfl ?_
    refine zat ?_
    obtain ⟨h22, H⟩ := gif H
    refine zup (fun (k20 : Nat) (s : (List zaf)) => [(5, .row 1 s.length), (21, .dat (vint (k20 : Int)))]) (fun (k20 : Nat) (s : (List zaf)) => [(0, .box (some bl) 25 [.dat (vlst (List.map zqb r16.2.L)), .dat (vint r16.2.at_)]), (1, .row 52 2 (List.map zao s))]) out13 H ⟨rfl, rfl, trivial⟩ ⟨rfl, rfl, trivial⟩ (fun _ _ => rfl) ?_ ?_
    ·rintro l19 H
     replace H : zhv r16 l19 = some r := H
     unfold zhv at H
     refine zac ?_
     refine zab hN rfl ?_
     refine zaa (za3 rfl rfl) ?_
     refine zac ?_
     refine zai _ rfl (fun h => (lt_t h).elim) (fun h => ?_)
     refine zbp ?_
     exact ⟨(l19, r16.2.L, r16.2.at_), H, ⟨rfl, trivial⟩, ⟨rfl, rfl, trivial⟩⟩
    ·rintro k20 l19 q21 h23 H hq21
     replace H : zhu k20 l19 = some q21 := H
     unfold zhu at H
     refine zac ?_
     refine zab hN rfl ?_
     refine zaa (za3 rfl rfl) ?_
     refine zac ?_
     refine zai _ rfl (fun h => ?_) (fun h => (lt_f h23 h).elim)
     refine zan ?_
     refine zac ?_
     refine zat ?_
     refine zab hN rfl ?_
     refine zaa (zah (.row _ _) rfl) ?_
     refine zaa (za4 (u' := vagg (zao (zaf.mk [110] [118]))) (zd5 [(0, [vstr [110]]), (1, [vstr [118]])] zp4 zvj rfl ⟨rfl, .inl ⟨_, rfl, rfl, rfl⟩, rfl, rfl, .inl ⟨_, rfl, rfl, rfl⟩, rfl, trivial⟩) rfl) ?_
     refine zaa (za4 (u' := vlst (List.map zao [(zaf.mk [110] [118])])) (zcl [_] zob ⟨rfl, .inr rfl, rfl, trivial⟩ rfl rfl) rfl) ?_
     obtain ⟨h24, H⟩ := gif H
     refine zal (zm1 zob (fun _ => rfl) rfl rfl rfl ⟨by simp, by first | (simp; done) | simpa using h24⟩ rfl) rfl ?_
     refine zaa (zbb (.row _ _) rfl) ?_
     refine zab hN rfl ?_
     refine zaa (zfc rfl rfl (by omega)) ?_
     refine qd rfl ?_
     exact ⟨_, zio H, ⟨rfl, rfl, trivial⟩, ⟨rfl, rfl, trivial⟩⟩
   ·replace H := iff_ h18 H
    refine zan ?_
    exact ⟨(out13, r16.2.L, r16.2.at_), H, ⟨rfl, trivial⟩, ⟨rfl, rfl, trivial⟩⟩
  ·rintro ⟨out25, c26, c27⟩ H
   replace H : zc7 out25 c26 c27 = some r := H
   unfold zc7 at H
   refine zac ?_
   refine zab hN rfl ?_
   refine zaa (zah (.row _ _) rfl) ?_
   refine zaa (zbb (.row _ _) rfl) ?_
   refine zap ?_
   cases H
   exact ⟨trivial, ⟨zov rfl rfl, trivial⟩, rfl⟩
theorem zoy (s1 : zad) (r : (zar × zad)) (H : zf8 s1 = some r) : Imp Tryz.prog 4 25 (zaq s1) [] (zbe [vagg (za9 r.1)]) (zaq r.2) := by
 refine zmz (us := [vagg (za9 r.1)]) (cs' := (zaq r.2)) (by kernel_rfl) Tryz.func4 rfl rfl rfl rfl fun X bl hN => ?_
 unfold zf8 at H
 refine zac ?_
 refine zab hN rfl ?_
 refine zal (zdf 1 zph rfl) rfl ?_
 refine zac ?_
 refine zab hN rfl ?_
 refine zaa (zah (.ptr _ _) rfl) ?_
 obtain ⟨r2, h3, H⟩ := bnd H
 refine zal (zb3 (znk s1 r2 h3) rfl trivial rfl) rfl ?_
 refine zal (zdf 2 zph rfl) rfl ?_
 refine zal (zb9 zkd rfl rfl rfl rfl) rfl ?_
 refine zax (ι := (List Int) × Int × Int × Bs × Bs × Bs × Bs × Bs × (List zaf) × Bs) (fun i => [(2, .ptr 1 0), (3, .ptr 2 0)]) (fun i => [(0, .box (some bl) 25 [.dat (vlst (List.map zqb i.1)), .dat (vint i.2.1)]), (1, .box none 28 [.dat (vint 0), .dat (vstr []), .dat (vstr []), .dat (vstr []), .dat (vstr []), .dat (vstr []), .dat (vnil), .dat (vstr [])]), (2, .box none 28 [.dat (vint i.2.2.1), .dat (vstr i.2.2.2.1), .dat (vstr i.2.2.2.2.1), .dat (vstr i.2.2.2.2.2.1), .dat (vstr i.2.2.2.2.2.2.1), .dat (vstr i.2.2.2.2.2.2.2.1), .dat (vlst (List.map zao i.2.2.2.2.2.2.2.2.1)), .dat (vstr i.2.2.2.2.2.2.2.2.2)])]) (fun i => zbg i.1 i.2.1 i.2.2.1 i.2.2.2.1 i.2.2.2.2.1 i.2.2.2.2.2.1 i.2.2.2.2.2.2.1 i.2.2.2.2.2.2.2.1 i.2.2.2.2.2.2.2.2.1 i.2.2.2.2.2.2.2.2.2 = some r) (fun i => rfl) ?_ ?_
 ·skip
  refine zac ?_
  refine zab hN rfl ?_
  refine zaa (zah (.ptr _ _) rfl) ?_
  obtain ⟨r4, h5, H⟩ := bnd H
  refine zal (zb3 (zdp r2.2 6 r4 h5) rfl ⟨.inl rfl, trivial⟩ rfl) rfl ?_
  refine zai _ rfl (fun h6 => ?_) (fun h6 => ?_)
  ·replace H := ift h6 H
   refine zac ?_
   refine zab hN rfl ?_
   refine zaa (zah (.ptr _ _) rfl) ?_
   obtain ⟨r7, h8, H⟩ := bnd H
   refine zal (zb3 (zdo r4.2 8 r7 h8) rfl ⟨.inl rfl, trivial⟩ rfl) rfl ?_
   refine zat ?_
   refine zac ?_
   refine zab hN rfl ?_
   refine zaa (zb6 rfl rfl) ?_
   refine qe rfl ?_
   refine zai _ rfl (fun h9 => ?_) (fun h9 => ?_)
   ·replace H := ift h9 H
    refine zab hN rfl ?_
    refine zaa (zah (.ptr _ _) rfl) ?_
    obtain ⟨r10, h11, H⟩ := bnd H
    refine zal (zb3 (zqv r7.2 0 1000 r10 h11) rfl ⟨.inl rfl, .inl rfl, trivial⟩ rfl) rfl ?_
    refine zaa (zaw ztv rfl) ?_
    refine zal (zdr tyS3 rfl rfl rfl rfl) rfl ?_
    exact ⟨(r10.2.L, r10.2.at_, r10.1, r2.1.Method, r2.1.Host, r2.1.Path, r2.1.Query, r2.1.From, r2.1.Headers, r2.1.Body), H, ⟨rfl, rfl, trivial⟩, ⟨rfl, rfl, rfl, trivial⟩⟩
   ·replace H := iff_ h9 H
    refine zac ?_
    refine zab hN rfl ?_
    refine zaa (zb6 rfl rfl) ?_
    refine qe rfl ?_
    refine zai _ rfl (fun h12 => ?_) (fun h12 => ?_)
    ·replace H := ift h12 H
     refine zab hN rfl ?_
     refine zaa (zah (.ptr _ _) rfl) ?_
     obtain ⟨r13, h14, H⟩ := bnd H
     refine zal (zb3 (zjn r7.2 r13 h14) rfl trivial rfl) rfl ?_
     refine zaa (zaw zpm rfl) ?_
     refine zal (zdr tyS9 rfl rfl rfl rfl) rfl ?_
     exact ⟨(r13.2.L, r13.2.at_, r2.1.At, r13.1, r2.1.Host, r2.1.Path, r2.1.Query, r2.1.From, r2.1.Headers, r2.1.Body), H, ⟨rfl, rfl, trivial⟩, ⟨rfl, rfl, rfl, trivial⟩⟩
    ·replace H := iff_ h12 H
     refine zac ?_
     refine zab hN rfl ?_
     refine zaa (zb6 rfl rfl) ?_
     refine qe rfl ?_
     refine zai _ rfl (fun h15 => ?_) (fun h15 => ?_)
     ·replace H := ift h15 H
      refine zab hN rfl ?_
      refine zaa (zah (.ptr _ _) rfl) ?_
      obtain ⟨r16, h17, H⟩ := bnd H
      refine zal (zb3 (zol r7.2 r16 h17) rfl trivial rfl) rfl ?_
      refine zaa (zaw zpl rfl) ?_
      refine zal (zdr tyS9 rfl rfl rfl rfl) rfl ?_
      exact ⟨(r16.2.L, r16.2.at_, r2.1.At, r2.1.Method, r16.1, r2.1.Path, r2.1.Query, r2.1.From, r2.1.Headers, r2.1.Body), H, ⟨rfl, rfl, trivial⟩, ⟨rfl, rfl, rfl, trivial⟩⟩
     ·replace H := iff_ h15 H
      refine zac ?_
      refine zab hN rfl ?_
      refine zaa (zb6 rfl rfl) ?_
      refine qe rfl ?_
      refine zai _ rfl (fun h18 => ?_) (fun h18 => ?_)
      ·replace H := ift h18 H
       refine zab hN rfl ?_
       refine zaa (zah (.ptr _ _) rfl) ?_
       obtain ⟨r19, h20, H⟩ := bnd H
       refine zal (zb3 (zok r7.2 r19 h20) rfl trivial rfl) rfl ?_
       refine zaa (zaw zpk rfl) ?_
       refine zal (zdr tyS9 rfl rfl rfl rfl) rfl ?_
       exact ⟨(r19.2.L, r19.2.at_, r2.1.At, r2.1.Method, r2.1.Host, r19.1, r2.1.Query, r2.1.From, r2.1.Headers, r2.1.Body), H, ⟨rfl, rfl, trivial⟩, ⟨rfl, rfl, rfl, trivial⟩⟩
      ·replace H := iff_ h18 H
       refine zac ?_
       refine zab hN rfl ?_
       refine zaa (zb6 rfl rfl) ?_
       refine qe rfl ?_
       refine zai _ rfl (fun h21 => ?_) (fun h21 => ?_)
       ·replace H := ift h21 H
        refine zab hN rfl ?_
        refine zaa (zah (.ptr _ _) rfl) ?_
        obtain ⟨r22, h23, H⟩ := bnd H
        refine zal (zb3 (zoj r7.2 r22 h23) rfl trivial rfl) rfl ?_
        refine zaa (zaw zpj rfl) ?_
        refine zal (zdr tyS9 rfl rfl rfl rfl) rfl ?_
        exact ⟨(r22.2.L, r22.2.at_, r2.1.At, r2.1.Method, r2.1.Host, r2.1.Path, r22.1, r2.1.From, r2.1.Headers, r2.1.Body), H, ⟨rfl, rfl, trivial⟩, ⟨rfl, rfl, rfl, trivial⟩⟩
       ·replace H := iff_ h21 H
        refine zac ?_
        refine zab hN rfl ?_
        refine zaa (zb6 rfl rfl) ?_
        refine qe rfl ?_
        refine zai _ rfl (fun h24 => ?_) (fun h24 => ?_)
        ·replace H := ift h24 H
         refine zab hN rfl ?_
         refine zaa (zah (.ptr _ _) rfl) ?_
         obtain ⟨r25, h26, H⟩ := bnd H
         refine zal (zb3 (zjo r7.2 r25 h26) rfl trivial rfl) rfl ?_
         refine zaa (zaw ztu rfl) ?_
         refine zal (zdr tyS9 rfl rfl rfl rfl) rfl ?_
         exact ⟨(r25.2.L, r25.2.at_, r2.1.At, r2.1.Method, r2.1.Host, r2.1.Path, r2.1.Query, r25.1, r2.1.Headers, r2.1.Body), H, ⟨rfl, rfl, trivial⟩, ⟨rfl, rfl, rfl, trivial⟩⟩
        ·replace H := iff_ h24 H
         refine zac ?_
         refine zab hN rfl ?_
         refine zaa (zb6 rfl rfl) ?_
         refine qe rfl ?_
         refine zai _ rfl (fun h27 => ?_) (fun h27 => ?_)
         ·replace H := ift h27 H
          refine zab hN rfl ?_
          refine zaa (zah (.ptr _ _) rfl) ?_
          obtain ⟨r28, h29, H⟩ := bnd H
          refine zal (zb3 (zl4 r7.2 4 r28 h29) rfl ⟨.inl rfl, trivial⟩ rfl) rfl ?_
          refine zaa (zaw zm0 rfl) ?_
          refine zal (zdr zsf rfl rfl rfl rfl) rfl ?_
          exact ⟨(r28.2.L, r28.2.at_, r2.1.At, r2.1.Method, r2.1.Host, r2.1.Path, r2.1.Query, r2.1.From, r28.1, r2.1.Body), H, ⟨rfl, rfl, trivial⟩, ⟨rfl, rfl, rfl, trivial⟩⟩
         ·replace H := iff_ h27 H
          refine zab hN rfl ?_
          refine zaa (zah (.ptr _ _) rfl) ?_
          refine zaa (za4 (u' := vlst (List.map zqb [20000, 20001])) (zcl [[_], [_]] z6c ⟨rfl, .inl ⟨_, rfl, rfl, rfl⟩, rfl, rfl, .inl ⟨_, rfl, rfl, rfl⟩, rfl, trivial⟩ rfl rfl) rfl) ?_
          obtain ⟨r30, h31, H⟩ := bnd H
          refine zal (zb3 (zk8 r7.2 [20000, 20001] r30 h31) rfl ⟨.inl rfl, trivial⟩ rfl) rfl ?_
          obtain ⟨r32, h33, H⟩ := bnd H
          refine zaa (zak (zjr [98] r30.1 r32 h33) ⟨.inl rfl, .inl rfl, trivial⟩) ?_
          refine zaa (zaw zsg rfl) ?_
          refine zal (zdr tyS9 rfl rfl rfl rfl) rfl ?_
          exact ⟨(r30.2.L, r30.2.at_, r2.1.At, r2.1.Method, r2.1.Host, r2.1.Path, r2.1.Query, r2.1.From, r2.1.Headers, r32), H, ⟨rfl, rfl, trivial⟩, ⟨rfl, rfl, rfl, trivial⟩⟩
  ·replace H := iff_ h6 H
   refine zan ?_
   exact ⟨(r4.2.L, r4.2.at_, r2.1.At, r2.1.Method, r2.1.Host, r2.1.Path, r2.1.Query, r2.1.From, r2.1.Headers, r2.1.Body), H, ⟨rfl, rfl, trivial⟩, ⟨rfl, rfl, rfl, trivial⟩⟩
 ·rintro ⟨c34, c35, c36, c37, c38, c39, c40, c41, c42, c43⟩ H
  replace H : zbg c34 c35 c36 c37 c38 c39 c40 c41 c42 c43 = some r := H
  unfold zbg at H
  refine zac ?_
  refine zab hN rfl ?_
  refine zau (zf6 zkd rfl rfl rfl) rfl ?_
  refine zal (zb9 zkd rfl rfl rfl rfl) rfl ?_
  refine zap ?_
  cases H
  exact ⟨trivial, ⟨.inl ⟨_, _, _, za9 (zar.mk c36 c37 c38 c39 c40 c41 c42 c43), rfl, rfl, rfl, rfl, zkd⟩, trivial⟩, rfl⟩
theorem zux (n1 : Int) (r : (Bool)) (H : zl2 n1 = some r) : Fn Tryz.prog 82 [vint n1] (zbe [za2 r]) := by
 refine ⟨by kernel_rfl, za7 (us := [za2 r]) Tryz.func82 rfl rfl rfl rfl fun X hN => ?_⟩
 unfold zl2 at H
 refine zac ?_
 refine zab hN rfl ?_
 refine qe rfl ?_
 refine zac ?_
 refine zab hN rfl ?_
 refine qd rfl ?_
 refine zaa (zi7 rfl rfl) ?_
 refine qd rfl ?_
 refine zig rfl rfl (fun hc => zah (.dat _) rfl) ?_
 refine zig rfl rfl (fun hc => za3 (cnd (c := (decide (0 ≤ n1))) hc) rfl) ?_
 refine zaa (zco rfl (fun hb => (cnd (c := (decide (0 ≤ n1))) hb)) rfl) ?_
 refine qe rfl ?_
 refine zap ?_
 cases H
 exact ⟨trivial, .inl rfl, trivial⟩
theorem zmr (c1 : Int) (r : (Bool)) (H : zj1 c1 = some r) : Fn Tryz.prog 173 [vval (.int .u8 c1)] (zbe [za2 r]) := by
 refine ⟨by kernel_rfl, za7 (us := [za2 r]) Tryz.func173 rfl rfl rfl rfl fun X hN => ?_⟩
 unfold zj1 at H
 refine zac ?_
 refine zab hN rfl ?_
 refine qe rfl ?_
 refine zac ?_
 refine zab hN rfl ?_
 refine qd rfl ?_
 refine zaa (zi7 rfl rfl) ?_
 refine qd rfl ?_
 refine zig rfl rfl (fun hc => zah (.dat _) rfl) ?_
 refine zig rfl rfl (fun hc => zhp (cnd (c := (decide (97 ≤ c1))) hc) rfl) ?_
 refine zaa (zco rfl (fun hb => (cnd (c := (decide (97 ≤ c1))) hb)) rfl) ?_
 refine qd rfl ?_
 refine ziq rfl rfl (fun hc => zah (.dat _) rfl) ?_
 refine ziq rfl rfl (fun hc => zi7 (cnd (c := (!((decide (97 ≤ c1)) && (decide (c1 ≤ 122))))) hc) rfl) ?_
 refine ziq rfl rfl (fun hc => zah (.dat _) (cnd (c := (!((decide (97 ≤ c1)) && (decide (c1 ≤ 122))))) hc)) ?_
 refine zop rfl rfl (fun hc => zah (.dat _) rfl) ?_
 refine zop rfl rfl (fun hc => zhp (cnd (c := ((!((decide (97 ≤ c1)) && (decide (c1 ≤ 122)))) && (decide (65 ≤ c1)))) hc) rfl) ?_
 refine ziq rfl rfl (fun hc => zco (cnd (c := (!((decide (97 ≤ c1)) && (decide (c1 ≤ 122))))) hc) (fun hb => (cnd (c := ((!((decide (97 ≤ c1)) && (decide (c1 ≤ 122)))) && (decide (65 ≤ c1)))) (andI hc hb))) rfl) ?_
 refine zaa (zhz rfl rfl (fun hb => (cnd (c := (!((decide (97 ≤ c1)) && (decide (c1 ≤ 122))))) (notI hb)))) ?_
 refine qe rfl ?_
 refine zap ?_
 cases H
 exact ⟨trivial, .inl rfl, trivial⟩
theorem zly (c1 : Int) (r : (Bool)) (H : zjf c1 = some r) : Fn Tryz.prog 174 [vval (.int .u8 c1)] (zbe [za2 r]) := by
 refine ⟨by kernel_rfl, za7 (us := [za2 r]) Tryz.func174 rfl rfl rfl rfl fun X hN => ?_⟩
 unfold zjf at H
 refine zac ?_
 refine zab hN rfl ?_
 refine qe rfl ?_
 refine zac ?_
 refine zab hN rfl ?_
 refine qd rfl ?_
 refine zaa (zi7 rfl rfl) ?_
 refine qd rfl ?_
 refine zig rfl rfl (fun hc => zah (.dat _) rfl) ?_
 refine zig rfl rfl (fun hc => zhp (cnd (c := (decide (48 ≤ c1))) hc) rfl) ?_
 refine zaa (zco rfl (fun hb => (cnd (c := (decide (48 ≤ c1))) hb)) rfl) ?_
 refine qe rfl ?_
 refine zap ?_
 cases H
 exact ⟨trivial, .inl rfl, trivial⟩
theorem zkx (l : Bs) (c r : Int) (H : zgb l c = some r) : Fn Tryz.prog 117 [vstr l, vval (.int .u8 c)] (zbe [vint r]) := by
 cases H
 refine zpx (by kernel_rfl) fun M w vs h => ?_
 have h1 := zl1 (us := [.string ⟨l.toArray⟩, .int .u8 c]) h
 subst h1
 refine (Tryz.strings_IndexByte ⟨l.toArray⟩ c w).mono ?_
 rintro e w' ⟨rfl, rfl⟩
 exact ⟨_, rfl, rfl, Kp.refl _ _⟩
theorem zqr (c1 : Int) (r : (Bool)) (H : zil c1 = some r) : Fn Tryz.prog 130 [vval (.int .u8 c1)] (zbe [za2 r]) := by
 refine ⟨by kernel_rfl, za7 (us := [za2 r]) Tryz.func130 rfl rfl rfl rfl fun X hN => ?_⟩
 unfold zil at H
 refine zac ?_
 refine zab hN rfl ?_
 refine qe rfl ?_
 refine zax (ι := Bool) (fun i => [(2, .dat (za2 i))]) (fun i => []) (fun i => zf4 i = some r) (fun i => rfl) ?_ ?_
 ·skip
  refine zab hN rfl ?_
  refine qd rfl ?_
  obtain ⟨r2, h3, H⟩ := bnd H
  refine zaa (zak (zmr c1 r2 h3) ⟨.inl rfl, trivial⟩) ?_
  refine qd rfl ?_
  refine zaz (j := 2) rfl rfl (fun h4 => ?_) (fun h4 => ?_) rfl
  ·have h5 := un3 h4
   replace H := iff_ h5 H
   refine zam rfl rfl h4 (zah (.dat _) rfl) ?_
   obtain ⟨r6, h7, H⟩ := bnd H
   refine zam rfl rfl h4 (zak (zly c1 r6 h7) ⟨.inl rfl, trivial⟩) ?_
   refine zaa (zaj rfl (bFF h5) rfl) ?_
   refine qd rfl ?_
   refine zaz (j := 6) rfl rfl (fun h8 => ?_) (fun h8 => ?_) rfl
   ·have h9 := un3 h8
    replace H := iff_ h9 H
    refine zam rfl rfl h8 (zah (.dat _) rfl) ?_
    obtain ⟨r10, h11, H⟩ := bnd H
    refine zam rfl rfl h8 (zak (zkx [33, 35, 36, 37, 38, 39, 42, 43, 45, 46, 94, 95, 96, 124, 126] c1 r10 h11) ⟨.inl rfl, .inl rfl, trivial⟩) ?_
    refine zam rfl rfl h8 (zi7 rfl rfl) ?_
    refine zaa (zaj rfl (bFF h9) rfl) ?_
    refine qe rfl ?_
    exact ⟨decide (0 ≤ r10), H, ⟨rfl, trivial⟩, trivial⟩
   ·have h12 := un4 h8
    replace H := ift h12 H
    refine zae rfl rfl h8 ?_
    refine zae rfl rfl h8 ?_
    refine zae rfl rfl h8 ?_
    refine zaa (zas rfl (bTT h12) rfl) ?_
    refine qe rfl ?_
    exact ⟨true, H, ⟨rfl, trivial⟩, trivial⟩
  ·have h13 := un4 h4
   replace H := ift h13 H
   refine zae rfl rfl h4 ?_
   refine zae rfl rfl h4 ?_
   refine zaa (zas rfl (bTT h13) rfl) ?_
   refine qd rfl ?_
   refine zae rfl rfl rfl ?_
   refine zae rfl rfl rfl ?_
   refine zae rfl rfl rfl ?_
   refine zaa (zas rfl rfl rfl) ?_
   refine qe rfl ?_
   exact ⟨true, H, ⟨rfl, trivial⟩, trivial⟩
 ·rintro v14 H
  replace H : zf4 v14 = some r := H
  unfold zf4 at H
  refine zap ?_
  cases H
  exact ⟨trivial, .inl rfl, trivial⟩
theorem zna (s1 : Bs) (r : (Bool)) (H : zh9 s1 = some r) : Fn Tryz.prog 83 [vstr s1] (zbe [za2 r]) := by
 refine ⟨by kernel_rfl, za7 (us := [za2 r]) Tryz.func83 rfl rfl rfl rfl fun X hN => ?_⟩
 unfold zh9 at H
 refine zac ?_
 refine zab hN rfl ?_
 refine qe rfl ?_
 refine zac ?_
 refine zac ?_
 refine zab hN rfl ?_
 refine qd rfl ?_
 refine zaa (za5 tyU9 rfl) ?_
 refine qd rfl ?_
 refine zat ?_
 obtain ⟨h4, H⟩ := gif H
 refine zed (fun (k2 : Nat) (s : Unit) => [(0, .dat (vstr s1)), (5, .dat (vint (s1.length : Int))), (6, .dat (vint (k2 : Int)))]) (fun (k2 : Nat) (s : Unit) => []) () H ⟨rfl, rfl, rfl, trivial⟩ trivial (fun _ _ => rfl) ?_ ?_
 ·rintro ⟨⟩ H
  replace H : zmm s1 = some r := H
  unfold zmm at H
  refine zac ?_
  refine zab hN rfl ?_
  refine zaa (za3 rfl rfl) ?_
  refine zac ?_
  refine zai _ rfl (fun h => (lt_t h).elim) (fun h => ?_)
  refine zbp ?_
  refine zac ?_
  refine zab hN rfl ?_
  refine qd rfl ?_
  refine zaa (zon rfl rfl) ?_
  refine qd rfl ?_
  refine zig rfl rfl (fun hc => zah (.dat _) rfl) ?_
  refine zig rfl rfl (fun hc => za5 tyU9 (cnd (c := (decide (s1 ≠ []))) hc)) ?_
  refine zig rfl rfl (fun hc => zhp (cnd (c := (decide (s1 ≠ []))) hc) rfl) ?_
  refine zaa (zco rfl (fun hb => (cnd (c := (decide (s1 ≠ []))) hb)) rfl) ?_
  refine qe rfl ?_
  refine zap ?_
  cases H
  exact ⟨trivial, .inl rfl, trivial⟩
 ·rintro k2 x5 ⟨⟩ q3 h6 h7 H hq3
  replace H : zlb k2 x5 = some q3 := H
  unfold zlb at H
  refine zac ?_
  refine zab hN rfl ?_
  refine zaa (za3 rfl rfl) ?_
  refine zac ?_
  refine zai _ rfl (fun h => ?_) (fun h => (lt_f h6 h).elim)
  refine zan ?_
  refine zac ?_
  refine zat ?_
  refine zac ?_
  refine zab hN rfl ?_
  refine qd rfl ?_
  refine qe rfl ?_
  refine zac ?_
  refine zab hN rfl ?_
  refine qd rfl ?_
  refine qd rfl ?_
  refine zaa (zgg tyU9 rfl rfl h7) ?_
  obtain ⟨r8, h9, H⟩ := bnd H
  refine zaa (zak (zqr (x5.toNat : Int) r8 h9) ⟨.inl rfl, trivial⟩) ?_
  refine zaa (zck rfl) ?_
  refine zai _ rfl (fun h10 => ?_) (fun h10 => ?_)
  ·replace H := ift h10 H
   refine zac ?_
   refine zab hN rfl ?_
   refine qe rfl ?_
   refine zap ?_
   replace H := retl H hq3
   cases H
   exact ⟨trivial, .inl rfl, trivial⟩
  ·replace H := iff_ h10 H
   refine zan ?_
   refine zab hN rfl ?_
   refine zaa (zfc rfl rfl (by omega)) ?_
   refine qd rfl ?_
   exact ⟨_, zio H, ⟨rfl, rfl, rfl, trivial⟩, trivial⟩
theorem zmq (s p : Bs) (r : Bs × Bs × Bool) (H : zga s p = some r) : Fn Tryz.prog 88 [vstr s, vstr p] (zbe [vstr r.1, vstr r.2.1, za2 r.2.2]) := by
 unfold zga at H
 obtain ⟨h1, h2⟩ := gif H
 cases h2
 refine zin (by kernel_rfl) fun M w vs hM h => ?_
 have hv := zl1 (us := [.string ⟨s.toArray⟩, .string ⟨p.toArray⟩]) h
 subst hv
 obtain ⟨m, hm⟩ := zpq hM
 refine (Tryz.strings_Cut ⟨s.toArray⟩ ⟨p.toArray⟩ m w (by simp [ByteArray.size]; omega) hm).mono ?_
 rintro e w' ⟨rfl, n, rfl⟩
 refine ⟨_, rfl, ⟨[_, _, _], rfl, rfl, fun j u hj => ?_⟩, ⟨rfl, rfl, rfl, Nat.le_refl _, fun _ _ _ => rfl⟩⟩
 rcases j with _ | _ | _ | j
 ·cases hj; exact ⟨_, rfl, rfl⟩
 ·cases hj; exact ⟨_, rfl, rfl⟩
 ·cases hj; exact ⟨_, rfl, rfl⟩
 ·simp at hj

theorem ztb (s sep : Bs) (r : List Bs) (H : zb8 s sep = some r) : FnG Tryz.prog 90 [.dat (vstr s), .dat (vstr sep)] [] (.row 900 r.length) [(900, .row 9 1 (List.map zay r))] := by
 obtain ⟨h1, h2, rfl⟩ := z0a H
 have hlen := Lib.splitB_all ⟨sep.toArray⟩ (by simpa [ByteArray.size] using h2) 0 _ ⟨s.toArray⟩ rfl
 have hle := Lib.countB_le ⟨sep.toArray⟩ (by simpa [ByteArray.size] using h2) _ ⟨s.toArray⟩ (Nat.le_refl _)
 refine z4t (args := [vstr s, vstr sep]) (zrf s sep) (by kernel_rfl) (fun M w vs hM hvs => ?_) ?_
 ·have hv := zl1 (us := [.string ⟨s.toArray⟩, .string ⟨sep.toArray⟩]) hvs
  subst hv
  obtain ⟨m, hm⟩ := zpq hM
  refine (Tryz.strings_Split ⟨s.toArray⟩ ⟨sep.toArray⟩ m w (by simp [ByteArray.size]; omega) hm (by simpa [ByteArray.size] using h2)).mono ?_
  rintro e w' ⟨rfl, rfl⟩
  have e1 : (zrf s sep).length = Lib.countB ⟨s.toArray⟩ ⟨sep.toArray⟩ + 1 := by unfold zrf; rw [List.length_map, hlen]
  have e2 : ((zrf s sep).map fun s => Value.string ⟨s.toArray⟩) = (Lib.splitB ⟨sep.toArray⟩ 0 (Lib.countB ⟨s.toArray⟩ ⟨sep.toArray⟩) ⟨s.toArray⟩).map Value.string := by
   unfold zrf
   rw [List.map_map]
   exact List.map_congr_left fun b _ => by simp
  rw [e1, e2]
  exact ⟨rfl, rfl⟩
 ·unfold zrf maxLen
  rw [List.length_map, hlen]
  have hsz : (ByteArray.mk s.toArray).size = s.length := by simp [ByteArray.size]
  rw [hsz] at hle
  omega
theorem zkp (s sep : Bs) (r : List Bs) (H : zb8 s sep = some r) : Fn Tryz.prog 90 [vstr s, vstr sep] (zbe [vlst (List.map zay r)]) := by
 have h := ztb s sep r H
 rw [← List.length_map (f := zay)] at h
 exact z2k h
theorem znw (s p : Bs) (r : Bs) (H : zka s p = some r) : Fn Tryz.prog 157 [vstr s, vstr p] (zbe [vstr r]) := by
 unfold zka at H
 cases H
 refine zin (by kernel_rfl) fun M w vs hM h => ?_
 have hv := zl1 (us := [.string ⟨s.toArray⟩, .string ⟨p.toArray⟩]) h
 subst hv
 refine (Tryz.strings_TrimPrefix ⟨s.toArray⟩ ⟨p.toArray⟩ w).mono ?_
 rintro e w' ⟨rfl, rfl⟩
 exact ⟨_, rfl, rfl, Kp.refl _ _⟩

theorem zbi (c1 : Int) (r : (Int)) (H : zba c1 = some r) : Fn Tryz.prog 216 [vval (.int .u8 c1)] (zbe [vval (.int .u8 r)]) := by
 refine ⟨by kernel_rfl, za7 (us := [vval (.int .u8 r)]) Tryz.func216 rfl rfl rfl rfl fun X hN => ?_⟩
 unfold zba at H
 refine zac ?_
 refine zab hN rfl ?_
 refine qe rfl ?_
 refine zac ?_
 refine zab hN rfl ?_
 refine qd rfl ?_
 refine zaa (za4 (z8a rfl rfl) rfl) ?_
 refine qe rfl ?_
 refine zap ?_
 cases H
 exact ⟨trivial, .inl rfl, trivial⟩
end Go.Proofs.YthgblfklceopgaaGreatDoor
