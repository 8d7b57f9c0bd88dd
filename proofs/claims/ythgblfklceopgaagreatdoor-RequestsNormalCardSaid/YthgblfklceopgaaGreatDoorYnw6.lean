/- Walks along the models. Printed by a program. -/
import Derived.Test.YthgblfklceopgaaGreatDoorYnw5
namespace Go.Proofs.YthgblfklceopgaaGreatDoor
open Go.RowKit
set_option linter.unusedVariables false
set_option maxRecDepth 20000
set_option maxHeartbeats 2000000
theorem zrs (v1 : zar) (r : (zar × Int)) (H : zjm v1 = some r) : Fn Tryz.prog 9 [vagg (za9 v1)] (zbe [vagg (za9 r.1), vint r.2]) := by
 refine ⟨by kernel_rfl, za7 (us := [vagg (za9 r.1), vint r.2]) Tryz.func9 rfl rfl rfl rfl fun X hN => ?_⟩
 unfold zjm at H
 refine zac ?_
 refine zab hN rfl ?_
 refine zal (zju 1 rfl) rfl ?_
 refine zal (zdf 2 zph rfl) rfl ?_
 refine qe rfl ?_
 refine zac ?_
 refine zac ?_
 refine zab hN rfl ?_
 refine zau (zf6 zkd rfl rfl rfl) rfl ?_
 obtain ⟨r2, h3, H⟩ := bnd H
 refine zaa (zak (zpw v1 r2 h3) ⟨.inl rfl, trivial⟩) ?_
 refine qe rfl ?_
 refine zac ?_
 refine zab hN rfl ?_
 refine qd rfl ?_
 refine zaa (zfw rfl rfl) ?_
 refine zai _ rfl (fun h4 => ?_) (fun h4 => ?_)
 ·replace H := ift h4 H
  refine zac ?_
  refine zab hN rfl ?_
  refine zaa (zs3 (u' := vagg (za9 (zar.mk 0 [] [] [] [] [] [] []))) (zs2 (by exact ⟨zdn, zdn, zdn, zdn, zdn, zdn, zre, zdn, trivial⟩)) (zd5 [] zph zvk rfl trivial)) ?_
  refine qd rfl ?_
  refine zal (zb9 zkd rfl rfl rfl rfl) rfl ?_
  refine qe rfl ?_
  refine zap ?_
  cases H
  exact ⟨trivial, .inl ⟨_, _, _, za9 (zar.mk 0 [] [] [] [] [] [] []), rfl, rfl, rfl, rfl, zkd⟩, .inl rfl, trivial⟩
 ·replace H := iff_ h4 H
  refine zan ?_
  refine zac ?_
  refine zab hN rfl ?_
  refine zau (zf6 zkd rfl rfl rfl) rfl ?_
  refine zal (zdf 3 zph rfl) rfl ?_
  refine zal (zb9 zkd rfl rfl rfl rfl) rfl ?_
  refine zac ?_
  refine zab hN rfl ?_
  refine qe rfl ?_
  refine zac ?_
  refine zab hN rfl ?_
  refine zaa (zaw zpl rfl) ?_
  refine zau (zav tyS9 rfl rfl) rfl ?_
  obtain ⟨r5, h6, H⟩ := bnd H
  refine zaa (zak (zpa v1.Host r5 h6) ⟨.inl rfl, trivial⟩) ?_
  refine qd rfl ?_
  refine zaa (zbj rfl rfl) ?_
  refine zaa (zbj rfl rfl) ?_
  refine zaa (zaw zpl rfl) ?_
  refine zal (zdr tyS9 rfl rfl rfl rfl) rfl ?_
  refine zac ?_
  refine zac ?_
  refine zab hN rfl ?_
  refine zaa (zaw zpk rfl) ?_
  refine zau (zav tyS9 rfl rfl) rfl ?_
  obtain ⟨r7, h8, H⟩ := bnd H
  refine zaa (zak (zsq v1.Path r7 h8) ⟨.inl rfl, trivial⟩) ?_
  refine qd rfl ?_
  refine zaa (zbj rfl rfl) ?_
  refine zaa (zbj rfl rfl) ?_
  refine zaa (zaw zpk rfl) ?_
  refine zal (zdr tyS9 rfl rfl rfl rfl) rfl ?_
  refine qe rfl ?_
  refine zac ?_
  refine zab hN rfl ?_
  refine qd rfl ?_
  refine zaa (zfw rfl rfl) ?_
  refine zai _ rfl (fun h9 => ?_) (fun h9 => ?_)
  ·replace H := ift h9 H
   refine zac ?_
   refine zab hN rfl ?_
   refine zaa (zs3 (u' := vagg (za9 (zar.mk 0 [] [] [] [] [] [] []))) (zs2 (by exact ⟨zdn, zdn, zdn, zdn, zdn, zdn, zre, zdn, trivial⟩)) (zd5 [] zph zvk rfl trivial)) ?_
   refine qd rfl ?_
   refine zal (zb9 zkd rfl rfl rfl rfl) rfl ?_
   refine qe rfl ?_
   refine zap ?_
   cases H
   exact ⟨trivial, .inl ⟨_, _, _, za9 (zar.mk 0 [] [] [] [] [] [] []), rfl, rfl, rfl, rfl, zkd⟩, .inl rfl, trivial⟩
  ·replace H := iff_ h9 H
   refine zan ?_
   refine zac ?_
   refine zab hN rfl ?_
   refine zaa (zaw zpj rfl) ?_
   refine zau (zav tyS9 rfl rfl) rfl ?_
   obtain ⟨r10, h11, H⟩ := bnd H
   refine zcv (rn [(900, 4)]) [] [(900, _)] (zrn v1.Query r10 h11) ⟨rfl, trivial⟩ ⟨.inl (.inl rfl), trivial⟩ trivial rfl ?_
   refine zaa (zah (.comp _ _) rfl) ?_
   refine zaa (ztk rfl rfl) ?_
   refine zaa (ztk rfl rfl) ?_
   refine zaa (zbb (.row _ _) rfl) ?_
   refine qe rfl ?_
   refine zac ?_
   refine zac ?_
   refine zab hN rfl ?_
   refine qd rfl ?_
   refine zaa (zfw rfl rfl) ?_
   refine zai _ rfl (fun h12 => ?_) (fun h12 => ?_)
   ·replace H := ift h12 H
    refine zac ?_
    refine zab hN rfl ?_
    refine zaa (zs3 (u' := vagg (za9 (zar.mk 0 [] [] [] [] [] [] []))) (zs2 (by exact ⟨zdn, zdn, zdn, zdn, zdn, zdn, zre, zdn, trivial⟩)) (zd5 [] zph zvk rfl trivial)) ?_
    refine qd rfl ?_
    refine zal (zb9 zkd rfl rfl rfl rfl) rfl ?_
    refine qe rfl ?_
    refine zap ?_
    cases H
    exact ⟨trivial, .inl ⟨_, _, _, za9 (zar.mk 0 [] [] [] [] [] [] []), rfl, rfl, rfl, rfl, zkd⟩, .inl rfl, trivial⟩
   ·replace H := iff_ h12 H
    refine zan ?_
    refine zac ?_
    refine zab hN rfl ?_
    refine zaa (zah (.row _ _) rfl) ?_
    obtain ⟨r13, h14, H⟩ := bnd H
    refine zcv (rn [(0, 4), (900, 5)]) [(0, _, _, none)] [(900, _)] (zhy r10.1 (fun (a0 : zag) => zfj a0) 52 [] (fun a0 r h => zqu a0 r h) r13 h14) ⟨rfl, rfl, trivial⟩ ⟨.inl (.inl rfl), .inr ⟨_, rfl, rfl⟩, trivial⟩ ⟨⟨⟨rfl, rfl, rfl⟩, trivial⟩, trivial⟩ rfl ?_
    refine zaa (zbb (.row _ _) rfl) ?_
    refine zac ?_
    refine zab hN rfl ?_
    refine zaa (zah (.row _ _) rfl) ?_
    obtain ⟨r15, h16, H⟩ := bnd H
    obtain ⟨h17, H⟩ := gif H
    refine zcv (rn [(0, 5)]) [(0, _, _, some _)] [] (zko r13 (fun (a0 : zag) (a1 : zag) => zgo a0 a1) 54 [] (fun a0 a1 r h => zqt a0 a1 r h) r15 h16) ⟨rfl, trivial⟩ ⟨.inl (.inl rfl), .inr ⟨_, rfl, rfl⟩, trivial⟩ ⟨⟨⟨rfl, rfl, rfl⟩, by simp [zt3, h17]⟩, trivial⟩ rfl ?_
    refine zac ?_
    refine zac ?_
    refine zom 7 5 rfl rfl (h17).symm ?_
    refine zab hN rfl ?_
    refine qd rfl ?_
    obtain ⟨r18, h19, H⟩ := bnd H
    refine zaa (zak (zrd r15 r18 h19) ⟨.inl rfl, trivial⟩) ?_
    refine qd rfl ?_
    refine zaa (zbj rfl rfl) ?_
    refine zaa (zbj rfl rfl) ?_
    refine zaa (zaw zpj rfl) ?_
    refine zal (zdr tyS9 rfl rfl rfl rfl) rfl ?_
    refine qe rfl ?_
    refine zac ?_
    refine zab hN rfl ?_
    refine qd rfl ?_
    refine zaa (zfw rfl rfl) ?_
    refine zai _ rfl (fun h20 => ?_) (fun h20 => ?_)
    ·replace H := ift h20 H
     refine zac ?_
     refine zab hN rfl ?_
     refine zaa (zs3 (u' := vagg (za9 (zar.mk 0 [] [] [] [] [] [] []))) (zs2 (by exact ⟨zdn, zdn, zdn, zdn, zdn, zdn, zre, zdn, trivial⟩)) (zd5 [] zph zvk rfl trivial)) ?_
     refine qd rfl ?_
     refine zal (zb9 zkd rfl rfl rfl rfl) rfl ?_
     refine qe rfl ?_
     refine zap ?_
     cases H
     exact ⟨trivial, .inl ⟨_, _, _, za9 (zar.mk 0 [] [] [] [] [] [] []), rfl, rfl, rfl, rfl, zkd⟩, .inl rfl, trivial⟩
    ·replace H := iff_ h20 H
     refine zan ?_
     refine zac ?_
     refine zab hN rfl ?_
     refine zaa (zaw zpm rfl) ?_
     refine zau (zav tyS9 rfl rfl) rfl ?_
     obtain ⟨r21, h22, H⟩ := bnd H
     refine zaa (zak (zo6 v1.Method r21 h22) ⟨.inl rfl, trivial⟩) ?_
     refine zaa (zaw zpm rfl) ?_
     refine zal (zdr tyS9 rfl rfl rfl rfl) rfl ?_
     refine zac ?_
     refine zab hN rfl ?_
     refine zaa (zaw zm0 rfl) ?_
     refine zal (zdr zsf rfl rfl rfl rfl) rfl ?_
     refine zac ?_
     refine zac ?_
     refine zab hN rfl ?_
     refine zaa (zaw zm0 rfl) ?_
     refine zau (zav zsf rfl rfl) rfl ?_
     refine zaa (zks zpi rfl) ?_
     refine qd rfl ?_
     refine zat ?_
     refine zpy 3 6 6 52 2 rfl rfl rfl rfl ?_
     obtain ⟨h26, H⟩ := gif H
     refine zed (fun (k24 : Nat) (s : (List zaf)) => [(2, .ptr 2 0), (5, .ptr 3 0), (65, .dat (vlst (List.map zao v1.Headers))), (66, .dat (vint (v1.Headers.length : Int))), (67, .dat (vint (k24 : Int)))]) (fun (k24 : Nat) (s : (List zaf)) => [(2, .box none 28 [.dat (vint 0), .dat (vstr []), .dat (vstr []), .dat (vstr []), .dat (vstr []), .dat (vstr []), .dat (vnil), .dat (vstr [])]), (3, .box none 28 [.dat (vint v1.At), .dat (vstr r21), .dat (vstr r5.1), .dat (vstr r7.1), .dat (vstr r18.1), .dat (vstr v1.From), .row 6 s.length, .dat (vstr v1.Body)]), (6, .row 52 2 (List.map zao s))]) ([] : List zaf) H ⟨rfl, rfl, rfl, rfl, rfl, trivial⟩ ⟨rfl, rfl, rfl, trivial⟩ (fun _ _ => rfl) ?_ ?_
     ·rintro l23 H
      replace H : zkc v1 r5 r7 r18 r21 l23 = some r := H
      unfold zkc at H
      refine zac ?_
      refine zab hN rfl ?_
      refine zaa (za3 rfl rfl) ?_
      refine zac ?_
      refine zai _ rfl (fun h => (lt_t h).elim) (fun h => ?_)
      refine zbp ?_
      refine zac ?_
      refine zzw 3 6 6 rfl rfl rfl (by rw [List.length_map]) ?_
      refine zab hN rfl ?_
      refine zau (zf6 zkd rfl rfl rfl) rfl ?_
      refine zal (zb9 zkd rfl rfl rfl rfl) rfl ?_
      refine qe rfl ?_
      refine zap ?_
      cases H
      exact ⟨trivial, .inl ⟨_, _, _, za9 (zar.mk v1.At r21 r5.1 r7.1 r18.1 v1.From l23 v1.Body), rfl, rfl, rfl, rfl, zkd⟩, .inl rfl, trivial⟩
     ·rintro k24 x27 l23 q25 h28 h29 H hq25
      replace H : zf0 k24 x27 l23 = some q25 := H
      unfold zf0 at H
      refine zn1 ?_
      refine zac ?_
      refine zab hN rfl ?_
      refine zaa (za3 rfl rfl) ?_
      refine zac ?_
      refine zai _ rfl (fun h => ?_) (fun h => (lt_f h28 h).elim)
      refine zan ?_
      refine zac ?_
      refine zat ?_
      refine zac ?_
      refine zab hN rfl ?_
      refine zaa (zn2 zp6 (fun _ => rfl) rfl rfl h29) ?_
      refine zaa (zip zng rfl (zjk h29) rfl) ?_
      refine zal (zdf 7 zp4 rfl) rfl ?_
      refine zal (zb9 zng rfl rfl rfl rfl) rfl ?_
      refine zik mixed hN rfl rfl ?_
      refine zaa (zaw zm0 rfl) ?_
      refine zau (zav zsf rfl rfl) rfl ?_
      refine zaa (zaw zoc rfl) ?_
      refine zau (zav tyS9 rfl rfl) rfl ?_
      obtain ⟨r30, h31, H⟩ := bnd H
      refine zaa (zak (zjg x27.Name r30 h31) ⟨.inl rfl, trivial⟩) ?_
      refine zaa (zaw ztt rfl) ?_
      refine zau (zav tyS9 rfl rfl) rfl ?_
      refine zaa (za4 (u' := vagg (zao (zaf.mk r30 x27.Value))) (zd5 [(0, [vstr r30]), (1, [vstr x27.Value])] zp4 zvj rfl ⟨rfl, .inl ⟨_, rfl, rfl, rfl⟩, rfl, rfl, .inl ⟨_, rfl, rfl, rfl⟩, rfl, trivial⟩) rfl) ?_
      refine zaa (za4 (u' := vlst (List.map zao [(zaf.mk r30 x27.Value)])) (zcl [_] zob ⟨rfl, .inr rfl, rfl, trivial⟩ rfl rfl) rfl) ?_
      obtain ⟨h32, H⟩ := gif H
      refine zal (zm1 zob (fun _ => rfl) rfl rfl rfl ⟨by simp, by first | (simp; done) | simpa using h32⟩ rfl) rfl ?_
      refine zaa (zaw zm0 rfl) ?_
      refine zq3 (zn8 zsf rfl rfl (by rw [List.length_map]) rfl) rfl rfl ?_
      refine ⟨rfl, ?_⟩
      refine zab hN rfl ?_
      refine zaa (zfc rfl rfl (by omega)) ?_
      refine qd rfl ?_
      refine zlk ?_
      show Cv _ _ _ _
      refine zsx ?_
      exact ⟨_, zio H, ⟨rfl, rfl, rfl, rfl, rfl, trivial⟩, ⟨rfl, rfl, rfl, trivial⟩⟩
theorem zfm (s1 : (List zaf)) (s2 : (List zaf)) (r : (Bool)) (H : zby s1 s2 = some r) : Fn Tryz.prog 23 [vlst (List.map zao s1), vlst (List.map zao s2)] (zbe [za2 r]) := by
 refine ⟨by kernel_rfl, za7 (us := [za2 r]) Tryz.func23 rfl rfl rfl rfl fun X hN => ?_⟩
 unfold zby at H
 refine zac ?_
 refine zab hN rfl ?_
 refine qe rfl ?_
 refine zac ?_
 refine zac ?_
 refine zab hN rfl ?_
 refine qd rfl ?_
 refine zaa (zks zpi rfl) ?_
 refine qd rfl ?_
 refine zaa (zks zpi rfl) ?_
 refine zaa (zfw rfl rfl) ?_
 refine zai _ rfl (fun h3 => ?_) (fun h3 => ?_)
 ·replace H := ift h3 H
  refine zac ?_
  refine zab hN rfl ?_
  refine qe rfl ?_
  refine zap ?_
  cases H
  exact ⟨trivial, .inl rfl, trivial⟩
 ·replace H := iff_ h3 H
  refine zan ?_
  refine zac ?_
  refine zac ?_
  refine zab hN rfl ?_
  refine qd rfl ?_
  refine zaa (zks zpi rfl) ?_
  refine qd rfl ?_
  refine zat ?_
  obtain ⟨h6, H⟩ := gif H
  refine zed (fun (k4 : Nat) (s : Unit) => [(0, .dat (vlst (List.map zao s1))), (1, .dat (vlst (List.map zao s2))), (12, .dat (vint (s1.length : Int))), (13, .dat (vint (k4 : Int)))]) (fun (k4 : Nat) (s : Unit) => []) () H ⟨rfl, rfl, rfl, rfl, trivial⟩ trivial (fun _ _ => rfl) ?_ ?_
  ·rintro ⟨⟩ H
   replace H : ze7 = some r := H
   unfold ze7 at H
   refine zac ?_
   refine zab hN rfl ?_
   refine zaa (za3 rfl rfl) ?_
   refine zac ?_
   refine zai _ rfl (fun h => (lt_t h).elim) (fun h => ?_)
   refine zbp ?_
   refine zac ?_
   refine zab hN rfl ?_
   refine qe rfl ?_
   refine zap ?_
   cases H
   exact ⟨trivial, .inl rfl, trivial⟩
  ·rintro k4 x7 ⟨⟩ q5 h8 h9 H hq5
   replace H : ze6 s2 k4 x7 = some q5 := H
   unfold ze6 at H
   refine zac ?_
   refine zab hN rfl ?_
   refine zaa (za3 rfl rfl) ?_
   refine zac ?_
   refine zai _ rfl (fun h => ?_) (fun h => (lt_f h8 h).elim)
   refine zan ?_
   refine zac ?_
   refine zat ?_
   refine zac ?_
   refine zab hN rfl ?_
   refine qd rfl ?_
   refine qe rfl ?_
   refine zac ?_
   refine zik mixed hN rfl rfl ?_
   refine qd rfl ?_
   refine qd rfl ?_
   refine zaa (zn2 zp6 (fun _ => rfl) rfl rfl h9) ?_
   refine zaa (zip zng rfl (zjk h9) rfl) ?_
   refine qd rfl ?_
   refine qd rfl ?_
   obtain ⟨x10, h11, H⟩ := bnd H
   refine zaa (zn2 zp6 (fun _ => rfl) rfl rfl h11) ?_
   refine zaa (zip zng rfl (zjk h11) rfl) ?_
   refine zaa (z34 [_, _] [_, _] z84 rfl rfl rfl) ?_
   refine ⟨rfl, ?_⟩
   refine zai _ rfl (fun h12 => ?_) (fun h12 => ?_)
   ·replace H := ift h12 H
    refine zac ?_
    refine zab hN rfl ?_
    refine qe rfl ?_
    refine zap ?_
    replace H := retl H hq5
    cases H
    exact ⟨trivial, .inl rfl, trivial⟩
   ·replace H := iff_ h12 H
    refine zan ?_
    refine zab hN rfl ?_
    refine zaa (zfc rfl rfl (by omega)) ?_
    refine qd rfl ?_
    exact ⟨_, zio H, ⟨rfl, rfl, rfl, rfl, trivial⟩, trivial⟩
theorem zqa (a1 : zar) (b2 : zar) (r : (Bool)) (H : zhx a1 b2 = some r) : Fn Tryz.prog 10 [vagg (za9 a1), vagg (za9 b2)] (zbe [za2 r]) := by
 refine ⟨by kernel_rfl, za7 (us := [za2 r]) Tryz.func10 rfl rfl rfl rfl fun X hN => ?_⟩
 unfold zhx at H
 refine zac ?_
 refine zab hN rfl ?_
 refine zal (zju 1 rfl) rfl ?_
 refine zal (zju 2 rfl) rfl ?_
 refine qe rfl ?_
 refine zax (ι := Bool) (fun i => [(4, .dat (za2 i))]) (fun i => []) (fun i => zbv i = some r) (fun i => rfl) ?_ ?_
 ·skip
  refine zab hN rfl ?_
  refine zaa (zaw ztv rfl) ?_
  refine zau (zav tyS3 rfl rfl) rfl ?_
  refine zaa (zaw ztv rfl) ?_
  refine zau (zav tyS3 rfl rfl) rfl ?_
  refine zaa (zb6 rfl rfl) ?_
  refine qd rfl ?_
  refine zaz (j := 5) rfl rfl (fun h3 => ?_) (fun h3 => ?_) rfl
  ·have h4 := un1 h3
   replace H := ift h4 H
   refine zam rfl rfl h3 (zaw zpm rfl) ?_
   refine zkf rfl rfl h3 (zav tyS9 rfl rfl) rfl ?_
   refine zam rfl rfl h3 (zaw zpm rfl) ?_
   refine zkf rfl rfl h3 (zav tyS9 rfl rfl) rfl ?_
   refine zam rfl rfl h3 (zdw rfl rfl) ?_
   refine zaa (zas rfl (bTT h4) rfl) ?_
   refine qd rfl ?_
   refine zaz (j := 12) rfl rfl (fun h5 => ?_) (fun h5 => ?_) rfl
   ·have h6 := un1 h5
    replace H := ift h6 H
    refine zam rfl rfl h5 (zaw zpl rfl) ?_
    refine zkf rfl rfl h5 (zav tyS9 rfl rfl) rfl ?_
    refine zam rfl rfl h5 (zaw zpl rfl) ?_
    refine zkf rfl rfl h5 (zav tyS9 rfl rfl) rfl ?_
    refine zam rfl rfl h5 (zdw rfl rfl) ?_
    refine zaa (zas rfl (bTT h6) rfl) ?_
    refine qd rfl ?_
    refine zaz (j := 19) rfl rfl (fun h7 => ?_) (fun h7 => ?_) rfl
    ·have h8 := un1 h7
     replace H := ift h8 H
     refine zam rfl rfl h7 (zaw zpk rfl) ?_
     refine zkf rfl rfl h7 (zav tyS9 rfl rfl) rfl ?_
     refine zam rfl rfl h7 (zaw zpk rfl) ?_
     refine zkf rfl rfl h7 (zav tyS9 rfl rfl) rfl ?_
     refine zam rfl rfl h7 (zdw rfl rfl) ?_
     refine zaa (zas rfl (bTT h8) rfl) ?_
     refine qd rfl ?_
     refine zaz (j := 26) rfl rfl (fun h9 => ?_) (fun h9 => ?_) rfl
     ·have h10 := un1 h9
      replace H := ift h10 H
      refine zam rfl rfl h9 (zaw zpj rfl) ?_
      refine zkf rfl rfl h9 (zav tyS9 rfl rfl) rfl ?_
      refine zam rfl rfl h9 (zaw zpj rfl) ?_
      refine zkf rfl rfl h9 (zav tyS9 rfl rfl) rfl ?_
      refine zam rfl rfl h9 (zdw rfl rfl) ?_
      refine zaa (zas rfl (bTT h10) rfl) ?_
      refine qd rfl ?_
      refine zaz (j := 33) rfl rfl (fun h11 => ?_) (fun h11 => ?_) rfl
      ·have h12 := un1 h11
       replace H := ift h12 H
       refine zam rfl rfl h11 (zaw ztu rfl) ?_
       refine zkf rfl rfl h11 (zav tyS9 rfl rfl) rfl ?_
       refine zam rfl rfl h11 (zaw ztu rfl) ?_
       refine zkf rfl rfl h11 (zav tyS9 rfl rfl) rfl ?_
       refine zam rfl rfl h11 (zdw rfl rfl) ?_
       refine zaa (zas rfl (bTT h12) rfl) ?_
       refine qd rfl ?_
       refine zaz (j := 40) rfl rfl (fun h13 => ?_) (fun h13 => ?_) rfl
       ·have h14 := un1 h13
        replace H := ift h14 H
        refine zam rfl rfl h13 (zaw zsg rfl) ?_
        refine zkf rfl rfl h13 (zav tyS9 rfl rfl) rfl ?_
        refine zam rfl rfl h13 (zaw zsg rfl) ?_
        refine zkf rfl rfl h13 (zav tyS9 rfl rfl) rfl ?_
        refine zam rfl rfl h13 (zdw rfl rfl) ?_
        refine zaa (zas rfl (bTT h14) rfl) ?_
        refine qd rfl ?_
        refine zaz (j := 47) rfl rfl (fun h15 => ?_) (fun h15 => ?_) rfl
        ·have h16 := un1 h15
         replace H := ift h16 H
         refine zam rfl rfl h15 (zaw zm0 rfl) ?_
         refine zkf rfl rfl h15 (zav zsf rfl rfl) rfl ?_
         refine zam rfl rfl h15 (zaw zm0 rfl) ?_
         refine zkf rfl rfl h15 (zav zsf rfl rfl) rfl ?_
         obtain ⟨r17, h18, H⟩ := bnd H
         refine zam rfl rfl h15 (zak (zfm a1.Headers b2.Headers r17 h18) ⟨.inl rfl, .inl rfl, trivial⟩) ?_
         refine zaa (zas rfl (bTT h16) rfl) ?_
         refine qe rfl ?_
         exact ⟨r17, H, ⟨rfl, trivial⟩, trivial⟩
        ·have h19 := un2 h15
         replace H := iff_ h19 H
         refine zae rfl rfl h15 ?_
         refine zae rfl rfl h15 ?_
         refine zae rfl rfl h15 ?_
         refine zae rfl rfl h15 ?_
         refine zae rfl rfl h15 ?_
         refine zaa (zaj rfl (bFF h19) rfl) ?_
         refine qe rfl ?_
         exact ⟨false, H, ⟨rfl, trivial⟩, trivial⟩
       ·have h20 := un2 h13
        replace H := iff_ h20 H
        refine zae rfl rfl h13 ?_
        refine zae rfl rfl h13 ?_
        refine zae rfl rfl h13 ?_
        refine zae rfl rfl h13 ?_
        refine zae rfl rfl h13 ?_
        refine zaa (zaj rfl (bFF h20) rfl) ?_
        refine qd rfl ?_
        refine zae rfl rfl rfl ?_
        refine zae rfl rfl rfl ?_
        refine zae rfl rfl rfl ?_
        refine zae rfl rfl rfl ?_
        refine zae rfl rfl rfl ?_
        refine zaa (zaj rfl rfl rfl) ?_
        refine qe rfl ?_
        exact ⟨false, H, ⟨rfl, trivial⟩, trivial⟩
      ·have h21 := un2 h11
       replace H := iff_ h21 H
       refine zae rfl rfl h11 ?_
       refine zae rfl rfl h11 ?_
       refine zae rfl rfl h11 ?_
       refine zae rfl rfl h11 ?_
       refine zae rfl rfl h11 ?_
       refine zaa (zaj rfl (bFF h21) rfl) ?_
       refine qd rfl ?_
       refine zae rfl rfl rfl ?_
       refine zae rfl rfl rfl ?_
       refine zae rfl rfl rfl ?_
       refine zae rfl rfl rfl ?_
       refine zae rfl rfl rfl ?_
       refine zaa (zaj rfl rfl rfl) ?_
       refine qd rfl ?_
       refine zae rfl rfl rfl ?_
       refine zae rfl rfl rfl ?_
       refine zae rfl rfl rfl ?_
       refine zae rfl rfl rfl ?_
       refine zae rfl rfl rfl ?_
       refine zaa (zaj rfl rfl rfl) ?_
       refine qe rfl ?_
       exact ⟨false, H, ⟨rfl, trivial⟩, trivial⟩
     ·have h22 := un2 h9
      replace H := iff_ h22 H
      refine zae rfl rfl h9 ?_
      refine zae rfl rfl h9 ?_
      refine zae rfl rfl h9 ?_
      refine zae rfl rfl h9 ?_
      refine zae rfl rfl h9 ?_
      refine zaa (zaj rfl (bFF h22) rfl) ?_
      refine qd rfl ?_
      refine zae rfl rfl rfl ?_
      refine zae rfl rfl rfl ?_
      refine zae rfl rfl rfl ?_
      refine zae rfl rfl rfl ?_
      refine zae rfl rfl rfl ?_
      refine zaa (zaj rfl rfl rfl) ?_
      refine qd rfl ?_
      refine zae rfl rfl rfl ?_
      refine zae rfl rfl rfl ?_
      refine zae rfl rfl rfl ?_
      refine zae rfl rfl rfl ?_
      refine zae rfl rfl rfl ?_
      refine zaa (zaj rfl rfl rfl) ?_
      refine qd rfl ?_
      refine zae rfl rfl rfl ?_
      refine zae rfl rfl rfl ?_
      refine zae rfl rfl rfl ?_
      refine zae rfl rfl rfl ?_
      refine zae rfl rfl rfl ?_
      refine zaa (zaj rfl rfl rfl) ?_
      refine qe rfl ?_
      exact ⟨false, H, ⟨rfl, trivial⟩, trivial⟩
    ·have h23 := un2 h7
     replace H := iff_ h23 H
     refine zae rfl rfl h7 ?_
     refine zae rfl rfl h7 ?_
     refine zae rfl rfl h7 ?_
     refine zae rfl rfl h7 ?_
     refine zae rfl rfl h7 ?_
     refine zaa (zaj rfl (bFF h23) rfl) ?_
     refine qd rfl ?_
     refine zae rfl rfl rfl ?_
     refine zae rfl rfl rfl ?_
     refine zae rfl rfl rfl ?_
     refine zae rfl rfl rfl ?_
     refine zae rfl rfl rfl ?_
     refine zaa (zaj rfl rfl rfl) ?_
     refine qd rfl ?_
     refine zae rfl rfl rfl ?_
     refine zae rfl rfl rfl ?_
     refine zae rfl rfl rfl ?_
     refine zae rfl rfl rfl ?_
     refine zae rfl rfl rfl ?_
     refine zaa (zaj rfl rfl rfl) ?_
     refine qd rfl ?_
     refine zae rfl rfl rfl ?_
     refine zae rfl rfl rfl ?_
     refine zae rfl rfl rfl ?_
     refine zae rfl rfl rfl ?_
     refine zae rfl rfl rfl ?_
     refine zaa (zaj rfl rfl rfl) ?_
     refine qd rfl ?_
     refine zae rfl rfl rfl ?_
     refine zae rfl rfl rfl ?_
     refine zae rfl rfl rfl ?_
     refine zae rfl rfl rfl ?_
     refine zae rfl rfl rfl ?_
     refine zaa (zaj rfl rfl rfl) ?_
     refine qe rfl ?_
     exact ⟨false, H, ⟨rfl, trivial⟩, trivial⟩
   ·have h24 := un2 h5
    replace H := iff_ h24 H
    refine zae rfl rfl h5 ?_
    refine zae rfl rfl h5 ?_
    refine zae rfl rfl h5 ?_
    refine zae rfl rfl h5 ?_
    refine zae rfl rfl h5 ?_
    refine zaa (zaj rfl (bFF h24) rfl) ?_
    refine qd rfl ?_
    refine zae rfl rfl rfl ?_
    refine zae rfl rfl rfl ?_
    refine zae rfl rfl rfl ?_
    refine zae rfl rfl rfl ?_
    refine zae rfl rfl rfl ?_
    refine zaa (zaj rfl rfl rfl) ?_
    refine qd rfl ?_
    refine zae rfl rfl rfl ?_
    refine zae rfl rfl rfl ?_
    refine zae rfl rfl rfl ?_
    refine zae rfl rfl rfl ?_
    refine zae rfl rfl rfl ?_
    refine zaa (zaj rfl rfl rfl) ?_
    refine qd rfl ?_
    refine zae rfl rfl rfl ?_
    refine zae rfl rfl rfl ?_
    refine zae rfl rfl rfl ?_
    refine zae rfl rfl rfl ?_
    refine zae rfl rfl rfl ?_
    refine zaa (zaj rfl rfl rfl) ?_
    refine qd rfl ?_
    refine zae rfl rfl rfl ?_
    refine zae rfl rfl rfl ?_
    refine zae rfl rfl rfl ?_
    refine zae rfl rfl rfl ?_
    refine zae rfl rfl rfl ?_
    refine zaa (zaj rfl rfl rfl) ?_
    refine qd rfl ?_
    refine zae rfl rfl rfl ?_
    refine zae rfl rfl rfl ?_
    refine zae rfl rfl rfl ?_
    refine zae rfl rfl rfl ?_
    refine zae rfl rfl rfl ?_
    refine zaa (zaj rfl rfl rfl) ?_
    refine qe rfl ?_
    exact ⟨false, H, ⟨rfl, trivial⟩, trivial⟩
  ·have h25 := un2 h3
   replace H := iff_ h25 H
   refine zae rfl rfl h3 ?_
   refine zae rfl rfl h3 ?_
   refine zae rfl rfl h3 ?_
   refine zae rfl rfl h3 ?_
   refine zae rfl rfl h3 ?_
   refine zaa (zaj rfl (bFF h25) rfl) ?_
   refine qd rfl ?_
   refine zae rfl rfl rfl ?_
   refine zae rfl rfl rfl ?_
   refine zae rfl rfl rfl ?_
   refine zae rfl rfl rfl ?_
   refine zae rfl rfl rfl ?_
   refine zaa (zaj rfl rfl rfl) ?_
   refine qd rfl ?_
   refine zae rfl rfl rfl ?_
   refine zae rfl rfl rfl ?_
   refine zae rfl rfl rfl ?_
   refine zae rfl rfl rfl ?_
   refine zae rfl rfl rfl ?_
   refine zaa (zaj rfl rfl rfl) ?_
   refine qd rfl ?_
   refine zae rfl rfl rfl ?_
   refine zae rfl rfl rfl ?_
   refine zae rfl rfl rfl ?_
   refine zae rfl rfl rfl ?_
   refine zae rfl rfl rfl ?_
   refine zaa (zaj rfl rfl rfl) ?_
   refine qd rfl ?_
   refine zae rfl rfl rfl ?_
   refine zae rfl rfl rfl ?_
   refine zae rfl rfl rfl ?_
   refine zae rfl rfl rfl ?_
   refine zae rfl rfl rfl ?_
   refine zaa (zaj rfl rfl rfl) ?_
   refine qd rfl ?_
   refine zae rfl rfl rfl ?_
   refine zae rfl rfl rfl ?_
   refine zae rfl rfl rfl ?_
   refine zae rfl rfl rfl ?_
   refine zae rfl rfl rfl ?_
   refine zaa (zaj rfl rfl rfl) ?_
   refine qd rfl ?_
   refine zae rfl rfl rfl ?_
   refine zae rfl rfl rfl ?_
   refine zae rfl rfl rfl ?_
   refine zae rfl rfl rfl ?_
   refine zae rfl rfl rfl ?_
   refine zaa (zaj rfl rfl rfl) ?_
   refine qe rfl ?_
   exact ⟨false, H, ⟨rfl, trivial⟩, trivial⟩
 ·rintro v26 H
  replace H : zbv v26 = some r := H
  unfold zbv at H
  refine zap ?_
  cases H
  exact ⟨trivial, .inl rfl, trivial⟩
theorem zmc (l1 : (List zaf)) (name2 : Bs) (r : (Int)) (H : zh6 l1 name2 = some r) : Fn Tryz.prog 57 [vlst (List.map zao l1), vstr name2] (zbe [vint r]) := by
 refine ⟨by kernel_rfl, za7 (us := [vint r]) Tryz.func57 rfl rfl rfl rfl fun X hN => ?_⟩
 unfold zh6 at H
 refine zac ?_
 refine zab hN rfl ?_
 refine qe rfl ?_
 refine zac ?_
 refine zac ?_
 refine zab hN rfl ?_
 refine qd rfl ?_
 obtain ⟨r3, h4, H⟩ := bnd H
 refine zaa (zak (zmy l1 r3 h4) ⟨.inl rfl, trivial⟩) ?_
 refine qe rfl ?_
 refine zac ?_
 refine zab hN rfl ?_
 refine qd rfl ?_
 refine zaa (zfw rfl rfl) ?_
 refine zai _ rfl (fun h5 => ?_) (fun h5 => ?_)
 ·replace H := ift h5 H
  refine zac ?_
  refine zab hN rfl ?_
  refine qd rfl ?_
  refine qe rfl ?_
  refine zap ?_
  cases H
  exact ⟨trivial, .inl rfl, trivial⟩
 ·replace H := iff_ h5 H
  refine zan ?_
  refine zac ?_
  refine zac ?_
  refine zab hN rfl ?_
  refine qd rfl ?_
  obtain ⟨r6, h7, H⟩ := bnd H
  refine zaa (zak (zna name2 r6 h7) ⟨.inl rfl, trivial⟩) ?_
  refine zaa (zck rfl) ?_
  refine zai _ rfl (fun h8 => ?_) (fun h8 => ?_)
  ·replace H := ift h8 H
   refine zac ?_
   refine zab hN rfl ?_
   refine qe rfl ?_
   refine zap ?_
   cases H
   exact ⟨trivial, .inl rfl, trivial⟩
  ·replace H := iff_ h8 H
   refine zan ?_
   refine zac ?_
   refine zab hN rfl ?_
   refine qe rfl ?_
   refine zap ?_
   cases H
   exact ⟨trivial, .inl rfl, trivial⟩
theorem zrp (s t : Bs) (r : Bool) (H : zku s t = some r) : Fn Tryz.prog 166 [vstr s, vstr t] (zbe [za2 r]) := by
 unfold zku at H
 obtain ⟨⟨h1, h2, h3⟩, h4⟩ := gif H
 cases h4
 refine zin (by kernel_rfl) fun M w vs hM h => ?_
 have hv := zl1 (us := [.string ⟨s.toArray⟩, .string ⟨t.toArray⟩]) h
 subst hv
 refine (Tryz.strings_EqualFold ⟨s.toArray⟩ ⟨t.toArray⟩ w (by simp [ByteArray.size]; omega) (fun j b hb => zsz h2 j b (by simpa using hb)) (fun j b hb => zsz h3 j b (by simpa using hb))).mono ?_
 rintro e w' ⟨rfl, rfl⟩
 exact ⟨_, rfl, rfl, Kp.refl _ _⟩

theorem zm9 (h1 : zaf) (name2 : Bs) (r : (Bool)) (H : zh7 h1 name2 = some r) : Fn Tryz.prog 114 [vagg (zao h1), vstr name2] (zbe [za2 r]) := by
 refine ⟨by kernel_rfl, za7 (us := [za2 r]) Tryz.func114 rfl rfl rfl rfl fun X hN => ?_⟩
 unfold zh7 at H
 refine zac ?_
 refine zab hN rfl ?_
 refine zal (zju 1 rfl) rfl ?_
 refine qe rfl ?_
 refine zac ?_
 refine zab hN rfl ?_
 refine zaa (zaw zoc rfl) ?_
 refine zau (zav tyS9 rfl rfl) rfl ?_
 refine qd rfl ?_
 obtain ⟨r3, h4, H⟩ := bnd H
 refine zaa (zak (zrp h1.Name name2 r3 h4) ⟨.inl rfl, .inl rfl, trivial⟩) ?_
 refine qe rfl ?_
 refine zap ?_
 cases H
 exact ⟨trivial, .inl rfl, trivial⟩
theorem ztc (l1 : (List zaf)) (name2 : Bs) (r : ((List Bs))) (H : zk3 l1 name2 = some r) : Fn Tryz.prog 58 [vlst (List.map zao l1), vstr name2] (zbe [vlst (List.map zay r)]) := by
 refine ⟨by kernel_rfl, za7 (us := [vlst (List.map zay r)]) Tryz.func58 rfl rfl rfl rfl fun X hN => ?_⟩
 unfold zk3 at H
 refine zac ?_
 refine zab hN rfl ?_
 refine qe rfl ?_
 refine zac ?_
 refine zab hN rfl ?_
 refine qe rfl ?_
 refine zac ?_
 refine zac ?_
 refine zab hN rfl ?_
 refine qd rfl ?_
 refine zaa (zks zpi rfl) ?_
 refine qd rfl ?_
 refine zat ?_
 refine zeh 5 1 9 1 rfl rfl rfl ?_
 obtain ⟨h6, H⟩ := gif H
 refine zed (fun (k4 : Nat) (s : (List Bs)) => [(1, .dat (vstr name2)), (5, .row 1 s.length), (8, .dat (vlst (List.map zao l1))), (9, .dat (vint (l1.length : Int))), (10, .dat (vint (k4 : Int)))]) (fun (k4 : Nat) (s : (List Bs)) => [(1, .row 9 1 (List.map zay s))]) [] H ⟨rfl, rfl, rfl, rfl, rfl, trivial⟩ ⟨rfl, trivial⟩ (fun _ _ => rfl) ?_ ?_
 ·rintro l3 H
  replace H : zlt l3 = some r := H
  unfold zlt at H
  refine zac ?_
  refine zab hN rfl ?_
  refine zaa (za3 rfl rfl) ?_
  refine zac ?_
  refine zai _ rfl (fun h => (lt_t h).elim) (fun h => ?_)
  refine zbp ?_
  refine zac ?_
  refine zab hN rfl ?_
  refine zaa (zah (.row _ _) rfl) ?_
  refine zaa (zbb (.row _ _) rfl) ?_
  refine zap ?_
  cases H
  exact ⟨trivial, zov rfl rfl, trivial⟩
 ·rintro k4 x7 l3 q5 h8 h9 H hq5
  replace H : zh2 name2 k4 x7 l3 = some q5 := H
  unfold zh2 at H
  refine zac ?_
  refine zab hN rfl ?_
  refine zaa (za3 rfl rfl) ?_
  refine zac ?_
  refine zai _ rfl (fun h => ?_) (fun h => (lt_f h8 h).elim)
  refine zan ?_
  refine zax (ι := (List Bs)) (fun i => [(1, .dat (vstr name2)), (5, .row 1 i.length), (8, .dat (vlst (List.map zao l1))), (9, .dat (vint (l1.length : Int))), (10, .dat (vint (k4 : Int)))]) (fun i => [(1, .row 9 1 (List.map zay i))]) (fun i => zjc i = some q5) (fun i => rfl) ?_ ?_
  ·skip
   refine zat ?_
   refine zac ?_
   refine zab hN rfl ?_
   refine zaa (zn2 zp6 (fun _ => rfl) rfl rfl h9) ?_
   refine zaa (zip zng rfl (zjk h9) rfl) ?_
   refine zal (zdf 2 zp4 rfl) rfl ?_
   refine zal (zb9 zng rfl rfl rfl rfl) rfl ?_
   refine zac ?_
   refine zab hN rfl ?_
   refine zau (zf6 zng rfl rfl rfl) rfl ?_
   refine qd rfl ?_
   obtain ⟨r10, h11, H⟩ := bnd H
   refine zaa (zak (zm9 x7 name2 r10 h11) ⟨.inl rfl, .inl rfl, trivial⟩) ?_
   refine zai _ rfl (fun h12 => ?_) (fun h12 => ?_)
   ·replace H := ift h12 H
    refine zab hN rfl ?_
    refine zaa (zah (.row _ _) rfl) ?_
    refine zaa (zaw ztt rfl) ?_
    refine zau (zav tyS9 rfl rfl) rfl ?_
    refine zaa (za4 (u' := vlst (List.map zay [x7.Value])) (zcl [[_]] zlg ⟨rfl, .inl ⟨_, rfl, rfl, rfl⟩, rfl, trivial⟩ rfl rfl) rfl) ?_
    obtain ⟨h13, H⟩ := gif H
    refine zal (zm1 zlg (fun _ => rfl) rfl rfl rfl ⟨by simp, by first | (simp; done) | simpa using h13⟩ rfl) rfl ?_
    refine zaa (zbb (.row _ _) rfl) ?_
    exact ⟨(l3 ++ [x7.Value]), H, ⟨rfl, rfl, rfl, rfl, rfl, trivial⟩, ⟨rfl, trivial⟩⟩
   ·replace H := iff_ h12 H
    refine zan ?_
    exact ⟨l3, H, ⟨rfl, rfl, rfl, rfl, rfl, trivial⟩, ⟨rfl, trivial⟩⟩
  ·rintro out14 H
   replace H : zjc out14 = some q5 := H
   unfold zjc at H
   refine zab hN rfl ?_
   refine zaa (zfc rfl rfl (by omega)) ?_
   refine qd rfl ?_
   exact ⟨_, zio H, ⟨rfl, rfl, rfl, rfl, rfl, trivial⟩, ⟨rfl, trivial⟩⟩
theorem zv6 (l1 : (List zaf)) (name2 : Bs) (r : ((List Bs) × Int)) (H : zn5 l1 name2 = some r) : Fn Tryz.prog 11 [vlst (List.map zao l1), vstr name2] (zbe [vlst (List.map zay r.1), vint r.2]) := by
 refine ⟨by kernel_rfl, za7 (us := [vlst (List.map zay r.1), vint r.2]) Tryz.func11 rfl rfl rfl rfl fun X hN => ?_⟩
 unfold zn5 at H
 refine zac ?_
 refine zab hN rfl ?_
 refine qe rfl ?_
 refine qe rfl ?_
 refine zac ?_
 refine zac ?_
 refine zab hN rfl ?_
 refine qd rfl ?_
 refine qd rfl ?_
 obtain ⟨r3, h4, H⟩ := bnd H
 refine zaa (zak (zmc l1 name2 r3 h4) ⟨.inl rfl, .inl rfl, trivial⟩) ?_
 refine qe rfl ?_
 refine zac ?_
 refine zab hN rfl ?_
 refine qd rfl ?_
 refine zaa (zfw rfl rfl) ?_
 refine zai _ rfl (fun h5 => ?_) (fun h5 => ?_)
 ·replace H := ift h5 H
  refine zac ?_
  refine zab hN rfl ?_
  refine qd rfl ?_
  refine qe rfl ?_
  refine qe rfl ?_
  refine zap ?_
  cases H
  exact ⟨trivial, .inr ⟨rfl, rfl⟩, .inl rfl, trivial⟩
 ·replace H := iff_ h5 H
  refine zan ?_
  refine zac ?_
  refine zab hN rfl ?_
  refine qd rfl ?_
  refine qd rfl ?_
  obtain ⟨r6, h7, H⟩ := bnd H
  refine zaa (zak (ztc l1 name2 r6 h7) ⟨.inl rfl, .inl rfl, trivial⟩) ?_
  refine qe rfl ?_
  refine qe rfl ?_
  refine zap ?_
  cases H
  exact ⟨trivial, .inl rfl, .inl rfl, trivial⟩
theorem zv4 (l1 : (List zaf)) (name2 : Bs) (value3 : Bs) (r : ((List zaf))) (H : zmn l1 name2 value3 = some r) : Fn Tryz.prog 60 [vlst (List.map zao l1), vstr name2, vstr value3] (zbe [vlst (List.map zao r)]) := by
 refine ⟨by kernel_rfl, za7 (us := [vlst (List.map zao r)]) Tryz.func60 rfl rfl rfl rfl fun X hN => ?_⟩
 unfold zmn at H
 refine zac ?_
 refine zab hN rfl ?_
 refine qe rfl ?_
 refine zac ?_
 refine zab hN rfl ?_
 refine qe rfl ?_
 refine zac ?_
 refine zab hN rfl ?_
 refine qe rfl ?_
 refine zac ?_
 refine zac ?_
 refine zab hN rfl ?_
 refine qd rfl ?_
 refine zaa (zks zpi rfl) ?_
 refine qd rfl ?_
 refine zat ?_
 refine zeh 7 1 52 2 rfl rfl rfl ?_
 obtain ⟨h8, H⟩ := gif H
 refine zed (fun (k6 : Nat) (s : Bool × (List zaf)) => [(1, .dat (vstr name2)), (2, .dat (vstr value3)), (7, .row 1 s.2.length), (8, .dat (za2 s.1)), (11, .dat (vlst (List.map zao l1))), (12, .dat (vint (l1.length : Int))), (13, .dat (vint (k6 : Int)))]) (fun (k6 : Nat) (s : Bool × (List zaf)) => [(1, .row 52 2 (List.map zao s.2))]) (false, []) H ⟨rfl, rfl, rfl, rfl, rfl, rfl, rfl, trivial⟩ ⟨rfl, trivial⟩ (fun _ _ => rfl) ?_ ?_
 ·rintro ⟨done4, l5⟩ H
  replace H : zii name2 value3 done4 l5 = some r := H
  unfold zii at H
  refine zac ?_
  refine zab hN rfl ?_
  refine zaa (za3 rfl rfl) ?_
  refine zac ?_
  refine zai _ rfl (fun h => (lt_t h).elim) (fun h => ?_)
  refine zbp ?_
  refine zax (ι := (List zaf)) (fun i => [(7, .row 1 i.length)]) (fun i => [(1, .row 52 2 (List.map zao i))]) (fun i => zj7 i = some r) (fun i => rfl) ?_ ?_
  ·skip
   refine zac ?_
   refine zab hN rfl ?_
   refine qd rfl ?_
   refine zaa (zck rfl) ?_
   refine zai _ rfl (fun h10 => ?_) (fun h10 => ?_)
   ·replace H := ift h10 H
    refine zab hN rfl ?_
    refine zaa (zah (.row _ _) rfl) ?_
    refine qd rfl ?_
    refine qd rfl ?_
    refine zaa (za4 (u' := vagg (zao (zaf.mk name2 value3))) (zd5 [(0, [vstr name2]), (1, [vstr value3])] zp4 zvj rfl ⟨rfl, .inl ⟨_, rfl, rfl, rfl⟩, rfl, rfl, .inl ⟨_, rfl, rfl, rfl⟩, rfl, trivial⟩) rfl) ?_
    refine zaa (za4 (u' := vlst (List.map zao [(zaf.mk name2 value3)])) (zcl [_] zob ⟨rfl, .inr rfl, rfl, trivial⟩ rfl rfl) rfl) ?_
    obtain ⟨h11, H⟩ := gif H
    refine zal (zm1 zob (fun _ => rfl) rfl rfl rfl ⟨by simp, by first | (simp; done) | simpa using h11⟩ rfl) rfl ?_
    refine zaa (zbb (.row _ _) rfl) ?_
    exact ⟨(l5 ++ [(zaf.mk name2 value3)]), H, ⟨rfl, trivial⟩, ⟨rfl, trivial⟩⟩
   ·replace H := iff_ h10 H
    refine zan ?_
    exact ⟨l5, H, ⟨rfl, trivial⟩, ⟨rfl, trivial⟩⟩
  ·rintro out12 H
   replace H : zj7 out12 = some r := H
   unfold zj7 at H
   refine zac ?_
   refine zab hN rfl ?_
   refine zaa (zah (.row _ _) rfl) ?_
   refine zaa (zbb (.row _ _) rfl) ?_
   refine zap ?_
   cases H
   exact ⟨trivial, zov rfl rfl, trivial⟩
 ·rintro k6 x9 ⟨done4, l5⟩ q7 h13 h14 H hq7
  replace H : zcw name2 value3 k6 x9 done4 l5 = some q7 := H
  unfold zcw at H
  refine zac ?_
  refine zab hN rfl ?_
  refine zaa (za3 rfl rfl) ?_
  refine zac ?_
  refine zai _ rfl (fun h => ?_) (fun h => (lt_f h13 h).elim)
  refine zan ?_
  refine zax (ι := Bool × (List zaf)) (fun i => [(1, .dat (vstr name2)), (2, .dat (vstr value3)), (7, .row 1 i.2.length), (8, .dat (za2 i.1)), (11, .dat (vlst (List.map zao l1))), (12, .dat (vint (l1.length : Int))), (13, .dat (vint (k6 : Int)))]) (fun i => [(1, .row 52 2 (List.map zao i.2))]) (fun i => zgy i.1 i.2 = some q7) (fun i => rfl) ?_ ?_
  ·skip
   refine zat ?_
   refine zac ?_
   refine zab hN rfl ?_
   refine zaa (zn2 zp6 (fun _ => rfl) rfl rfl h14) ?_
   refine zaa (zip zng rfl (zjk h14) rfl) ?_
   refine zal (zdf 2 zp4 rfl) rfl ?_
   refine zal (zb9 zng rfl rfl rfl rfl) rfl ?_
   refine zat ?_
   refine zac ?_
   refine zab hN rfl ?_
   refine zau (zf6 zng rfl rfl rfl) rfl ?_
   refine qd rfl ?_
   obtain ⟨r15, h16, H⟩ := bnd H
   refine zaa (zak (zm9 x9 name2 r15 h16) ⟨.inl rfl, .inl rfl, trivial⟩) ?_
   refine zaa (zck rfl) ?_
   refine qe rfl ?_
   refine zai _ rfl (fun h17 => ?_) (fun h17 => ?_)
   ·replace H := ift h17 H
    refine zab hN rfl ?_
    refine zaa (zah (.row _ _) rfl) ?_
    refine zau (zf6 zng rfl rfl rfl) rfl ?_
    refine zaa (za4 (u' := vlst (List.map zao [x9])) (zcl [_] zob ⟨rfl, .inr rfl, rfl, trivial⟩ rfl rfl) rfl) ?_
    obtain ⟨h18, H⟩ := gif H
    refine zal (zm1 zob (fun _ => rfl) rfl rfl rfl ⟨by simp, by first | (simp; done) | simpa using h18⟩ rfl) rfl ?_
    refine zaa (zbb (.row _ _) rfl) ?_
    exact ⟨(done4, (l5 ++ [x9])), H, ⟨rfl, rfl, rfl, rfl, rfl, rfl, rfl, trivial⟩, ⟨rfl, trivial⟩⟩
   ·replace H := iff_ h17 H
    refine zac ?_
    refine zab hN rfl ?_
    refine qd rfl ?_
    refine zaa (zck rfl) ?_
    refine qe rfl ?_
    refine zai _ rfl (fun h19 => ?_) (fun h19 => ?_)
    ·replace H := ift h19 H
     refine zac ?_
     refine zab hN rfl ?_
     refine zaa (zah (.row _ _) rfl) ?_
     refine zaa (zaw zoc rfl) ?_
     refine zau (zav tyS9 rfl rfl) rfl ?_
     refine qd rfl ?_
     refine zaa (za4 (u' := vagg (zao (zaf.mk x9.Name value3))) (zd5 [(0, [vstr x9.Name]), (1, [vstr value3])] zp4 zvj rfl ⟨rfl, .inl ⟨_, rfl, rfl, rfl⟩, rfl, rfl, .inl ⟨_, rfl, rfl, rfl⟩, rfl, trivial⟩) rfl) ?_
     refine zaa (za4 (u' := vlst (List.map zao [(zaf.mk x9.Name value3)])) (zcl [_] zob ⟨rfl, .inr rfl, rfl, trivial⟩ rfl rfl) rfl) ?_
     obtain ⟨h20, H⟩ := gif H
     refine zal (zm1 zob (fun _ => rfl) rfl rfl rfl ⟨by simp, by first | (simp; done) | simpa using h20⟩ rfl) rfl ?_
     refine zaa (zbb (.row _ _) rfl) ?_
     refine zab hN rfl ?_
     refine qe rfl ?_
     exact ⟨(true, (l5 ++ [(zaf.mk x9.Name value3)])), H, ⟨rfl, rfl, rfl, rfl, rfl, rfl, rfl, trivial⟩, ⟨rfl, trivial⟩⟩
    ·replace H := iff_ h19 H
     refine zan ?_
     exact ⟨(done4, l5), H, ⟨rfl, rfl, rfl, rfl, rfl, rfl, rfl, trivial⟩, ⟨rfl, trivial⟩⟩
  ·rintro ⟨done21, out22⟩ H
   replace H : zgy done21 out22 = some q7 := H
   unfold zgy at H
   refine zab hN rfl ?_
   refine zaa (zfc rfl rfl (by omega)) ?_
   refine qd rfl ?_
   exact ⟨_, zio H, ⟨rfl, rfl, rfl, rfl, rfl, rfl, rfl, trivial⟩, ⟨rfl, trivial⟩⟩
theorem zv5 (l1 : (List zaf)) (name2 : Bs) (value3 : Bs) (r : ((List zaf) × Int)) (H : zn4 l1 name2 value3 = some r) : Fn Tryz.prog 12 [vlst (List.map zao l1), vstr name2, vstr value3] (zbe [vlst (List.map zao r.1), vint r.2]) := by
 refine ⟨by kernel_rfl, za7 (us := [vlst (List.map zao r.1), vint r.2]) Tryz.func12 rfl rfl rfl rfl fun X hN => ?_⟩
 unfold zn4 at H
 refine zac ?_
 refine zab hN rfl ?_
 refine qe rfl ?_
 refine qe rfl ?_
 refine zac ?_
 refine zac ?_
 refine zab hN rfl ?_
 refine qd rfl ?_
 refine qd rfl ?_
 obtain ⟨r4, h5, H⟩ := bnd H
 refine zaa (zak (zmc l1 name2 r4 h5) ⟨.inl rfl, .inl rfl, trivial⟩) ?_
 refine qe rfl ?_
 refine zac ?_
 refine zab hN rfl ?_
 refine qd rfl ?_
 refine zaa (zfw rfl rfl) ?_
 refine zai _ rfl (fun h6 => ?_) (fun h6 => ?_)
 ·replace H := ift h6 H
  refine zac ?_
  refine zab hN rfl ?_
  refine qd rfl ?_
  refine qe rfl ?_
  refine qe rfl ?_
  refine zap ?_
  cases H
  exact ⟨trivial, .inr ⟨rfl, rfl⟩, .inl rfl, trivial⟩
 ·replace H := iff_ h6 H
  refine zan ?_
  refine zac ?_
  refine zac ?_
  refine zab hN rfl ?_
  refine qd rfl ?_
  obtain ⟨r7, h8, H⟩ := bnd H
  refine zaa (zak (znb value3 r7 h8) ⟨.inl rfl, trivial⟩) ?_
  refine zaa (zck rfl) ?_
  refine zai _ rfl (fun h9 => ?_) (fun h9 => ?_)
  ·replace H := ift h9 H
   refine zac ?_
   refine zab hN rfl ?_
   refine qe rfl ?_
   refine qe rfl ?_
   refine zap ?_
   cases H
   exact ⟨trivial, .inr ⟨rfl, rfl⟩, .inl rfl, trivial⟩
  ·replace H := iff_ h9 H
   refine zan ?_
   refine zac ?_
   refine zab hN rfl ?_
   refine qd rfl ?_
   refine qd rfl ?_
   refine qd rfl ?_
   obtain ⟨r10, h11, H⟩ := bnd H
   refine zaa (zak (zv4 l1 name2 value3 r10 h11) ⟨.inl rfl, .inl rfl, .inl rfl, trivial⟩) ?_
   refine qe rfl ?_
   refine zac ?_
   refine zac ?_
   refine zab hN rfl ?_
   refine qd rfl ?_
   refine zaa (zks zpi rfl) ?_
   refine zaa (zg1 rfl rfl) ?_
   refine zai _ rfl (fun h12 => ?_) (fun h12 => ?_)
   ·replace H := ift h12 H
    refine zac ?_
    refine zab hN rfl ?_
    refine qe rfl ?_
    refine qe rfl ?_
    refine zap ?_
    cases H
    exact ⟨trivial, .inr ⟨rfl, rfl⟩, .inl rfl, trivial⟩
   ·replace H := iff_ h12 H
    refine zan ?_
    refine zac ?_
    refine zab hN rfl ?_
    refine qd rfl ?_
    refine qe rfl ?_
    refine qe rfl ?_
    refine zap ?_
    cases H
    exact ⟨trivial, .inl rfl, .inl rfl, trivial⟩
theorem zhc (s1 : (List zaf)) (p1 : zaf → Option (Bool)) (fv1 : Nat) (us1 : List V) (hp1 : ∀ a0 r, p1 a0 = some r → Fn Tryz.prog fv1 ([vagg (zao a0)] ++ us1) (zbe [za2 r])) (r : (Int)) (H : zb5 s1 p1 = some r) : Fn Tryz.prog 69 [vlst (List.map zao s1), vfn fv1 us1] (zbe [vint r]) := by
 refine ⟨by kernel_rfl, za7 (us := [vint r]) Tryz.func69 rfl rfl rfl rfl fun X hN => ?_⟩
 unfold zb5 at H
 refine zac ?_
 refine zab hN rfl ?_
 refine qe rfl ?_
 refine zac ?_
 refine zac ?_
 refine zab hN rfl ?_
 refine qd rfl ?_
 refine zaa (zks zpi rfl) ?_
 refine qd rfl ?_
 refine zat ?_
 obtain ⟨h4, H⟩ := gif H
 refine zed (fun (k2 : Nat) (s : Unit) => [(0, .dat (vlst (List.map zao s1))), (1, .dat (vfn fv1 us1)), (7, .dat (vint (s1.length : Int))), (8, .dat (vint (k2 : Int)))]) (fun (k2 : Nat) (s : Unit) => []) () H ⟨rfl, rfl, rfl, rfl, trivial⟩ trivial (fun _ _ => rfl) ?_ ?_
 ·rintro ⟨⟩ H
  replace H : zdy = some r := H
  unfold zdy at H
  refine zac ?_
  refine zab hN rfl ?_
  refine zaa (za3 rfl rfl) ?_
  refine zac ?_
  refine zai _ rfl (fun h => (lt_t h).elim) (fun h => ?_)
  refine zbp ?_
  refine zac ?_
  refine zab hN rfl ?_
  refine qe rfl ?_
  refine zap ?_
  cases H
  exact ⟨trivial, .inl rfl, trivial⟩
 ·rintro k2 x5 ⟨⟩ q3 h6 h7 H hq3
  replace H : zdx p1 k2 x5 = some q3 := H
  unfold zdx at H
  refine zac ?_
  refine zab hN rfl ?_
  refine zaa (za3 rfl rfl) ?_
  refine zac ?_
  refine zai _ rfl (fun h => ?_) (fun h => (lt_f h6 h).elim)
  refine zan ?_
  refine zac ?_
  refine zat ?_
  refine zac ?_
  refine zab hN rfl ?_
  refine qd rfl ?_
  refine qe rfl ?_
  refine zac ?_
  refine zab hN rfl ?_
  refine qd rfl ?_
  refine qd rfl ?_
  refine qd rfl ?_
  refine zaa (zn2 zp6 (fun _ => rfl) rfl rfl h7) ?_
  refine zaa (zip zng rfl (zjk h7) rfl) ?_
  obtain ⟨r8, h9, H⟩ := bnd H
  refine zaa (zqi (hp1 x5 r8 h9) rfl ⟨.inl rfl, trivial⟩) ?_
  refine zai _ rfl (fun h10 => ?_) (fun h10 => ?_)
  ·replace H := ift h10 H
   refine zac ?_
   refine zab hN rfl ?_
   refine qd rfl ?_
   refine qe rfl ?_
   refine zap ?_
   replace H := retl H hq3
   cases H
   exact ⟨trivial, .inl rfl, trivial⟩
  ·replace H := iff_ h10 H
   refine zan ?_
   refine zab hN rfl ?_
   refine zaa (zfc rfl rfl (by omega)) ?_
   refine qd rfl ?_
   exact ⟨_, zio H, ⟨rfl, rfl, rfl, rfl, trivial⟩, trivial⟩
theorem zgq (s1 : (List zaf)) (p1 : zaf → Option (Bool)) (fv1 : Nat) (us1 : List V) (hp1 : ∀ a0 r, p1 a0 = some r → Fn Tryz.prog fv1 ([vagg (zao a0)] ++ us1) (zbe [za2 r])) (r : ((List zaf))) (H : zbn s1 p1 = some r) : FnG Tryz.prog 67 [.row 0 s1.length, .dat (vfn fv1 us1)] [(0, .row 52 2 (List.map zao s1))] (.row 900 r.length) [(900, .row 52 2 (List.map zao r))] := by
 refine zpe (by kernel_rfl) Tryz.func67 rfl rfl rfl rfl fun X A hN => ?_
 unfold zbn at H
 refine zac ?_
 refine zab hN rfl ?_
 refine qe rfl ?_
 refine zac ?_
 refine zab hN rfl ?_
 refine zaa (zah (.row _ _) rfl) ?_
 refine qd rfl ?_
 obtain ⟨r2, h3, H⟩ := bnd H
 refine zau (zt2 (id := 0) (es := List.map zao s1) (zhc s1 p1 fv1 us1 hp1 r2 h3) ⟨.inr ⟨(congrArg (Slot.row 0) (by rw [List.length_map]) : Slot.row 0 s1.length = _), rfl⟩, .inl (.inl (.inl rfl)), trivial⟩ (fun _ _ _ _ h => h)) rfl ?_
 refine qe rfl ?_
 refine zac ?_
 refine zac ?_
 refine zab hN rfl ?_
 refine qd rfl ?_
 refine zaa (zb6 rfl rfl) ?_
 refine zai _ rfl (fun h4 => ?_) (fun h4 => ?_)
 ·replace H := ift h4 H
  refine zac ?_
  refine zab hN rfl ?_
  refine zaa (zah (.row _ _) rfl) ?_
  refine zaa (zbb (.row _ _) rfl) ?_
  refine zsy 4 0 900 rfl rfl (by rw [List.length_map]) rfl ?_
  refine zap ?_
  cases H
  exact ⟨trivial, [(4, .row 900 _)], ⟨rfl, trivial⟩, ⟨rfl, trivial⟩, rfl, .inr (.inl ⟨4, rfl, rfl⟩)⟩
 ·replace H := iff_ h4 H
  refine zan ?_
  refine zax (ι := Int × (List zaf)) (fun i => [(0, .row 0 i.2.length), (5, .dat (vint i.1))]) (fun i => [(0, .row 52 2 (List.map zao i.2))]) (fun i => zcm i.1 i.2 = some r) (fun i => rfl) ?_ ?_
  ·skip
   refine zac ?_
   refine zab hN rfl ?_
   refine qd rfl ?_
   refine zaa (za8 _ rfl rfl (.inl ⟨rfl, rfl⟩)) ?_
   refine qe rfl ?_
   refine zat ?_
   refine zlf (fun (s : Int × Int × (List zaf)) => [(0, .row 0 s.2.2.length), (1, .dat (vfn fv1 us1)), (5, .dat (vint s.1)), (6, .dat (vint s.2.1))]) (fun (s : Int × Int × (List zaf)) => [(0, .row 52 2 (List.map zao s.2.2))]) (r2, wr (r2 + 1), s1) H ⟨rfl, rfl, rfl, rfl, trivial⟩ ⟨rfl, trivial⟩ (fun _ => rfl) ?_
   rintro ⟨i5, j6, l7⟩ q8 H hq8
   replace H : zds p1 i5 j6 l7 = some q8 := H
   unfold zds at H
   refine zac ?_
   refine zac ?_
   refine zab hN rfl ?_
   refine qd rfl ?_
   refine zaa (zah (.row _ _) rfl) ?_
   refine zau (zu2 zpi rfl rfl) rfl ?_
   refine zaa (za3 rfl rfl) ?_
   refine zai _ rfl (fun h9 => ?_) (fun h9 => ?_)
   ·replace H := ift h9 H
    refine zan ?_
    refine zax (ι := Int × (List zaf)) (fun i => [(0, .row 0 i.2.length), (1, .dat (vfn fv1 us1)), (5, .dat (vint i.1)), (6, .dat (vint j6))]) (fun i => [(0, .row 52 2 (List.map zao i.2))]) (fun i => zbx j6 i.1 i.2 = some q8) (fun i => rfl) ?_ ?_
    ·skip
     refine zat ?_
     refine zac ?_
     refine zab hN rfl ?_
     refine zaa (zah (.row _ _) rfl) ?_
     refine qd rfl ?_
     obtain ⟨x10, h11, H⟩ := bnd H
     refine zau (zvp zp6 rfl rfl rfl h11) rfl ?_
     refine zau (zvo zng rfl rfl (zk2 h11).2 rfl) rfl ?_
     refine zal (zdf 1 zp4 rfl) rfl ?_
     refine zal (zb9 zng rfl rfl rfl rfl) rfl ?_
     refine zac ?_
     refine zab hN rfl ?_
     refine qd rfl ?_
     refine zau (zf6 zng rfl rfl rfl) rfl ?_
     obtain ⟨r12, h13, H⟩ := bnd H
     refine zaa (zqi (hp1 x10 r12 h13) rfl ⟨.inl rfl, trivial⟩) ?_
     refine zaa (zck rfl) ?_
     refine zai _ rfl (fun h14 => ?_) (fun h14 => ?_)
     ·replace H := ift h14 H
      refine zac ?_
      refine zab hN rfl ?_
      refine zaa (zah (.row _ _) rfl) ?_
      refine qd rfl ?_
      refine zau (zf6 zng rfl rfl rfl) rfl ?_
      obtain ⟨x15, h16, H⟩ := bnd H
      refine zau (zvp zp6 rfl rfl rfl h16) rfl ?_
      refine zal (zwu (C := zao) zng rfl rfl rfl (z44 (zk2 h16).2) rfl rfl) rfl ?_
      refine zab hN rfl ?_
      refine qd rfl ?_
      refine zaa (za8 _ rfl rfl (.inl ⟨rfl, rfl⟩)) ?_
      refine qe rfl ?_
      exact ⟨(wr (i5 + 1), (l7.set i5.toNat x10)), H, ⟨congrArg (Slot.row 0) (by simp), rfl, rfl, rfl, trivial⟩, ⟨rfl, trivial⟩⟩
     ·replace H := iff_ h14 H
      refine zan ?_
      exact ⟨(i5, l7), H, ⟨rfl, rfl, rfl, rfl, trivial⟩, ⟨rfl, trivial⟩⟩
    ·rintro ⟨i17, s18⟩ H
     replace H : zbx j6 i17 s18 = some q8 := H
     unfold zbx at H
     refine zab hN rfl ?_
     refine qd rfl ?_
     refine zaa (za8 _ rfl rfl (.inl ⟨rfl, rfl⟩)) ?_
     refine qe rfl ?_
     exact ⟨_, zio H, ⟨rfl, rfl, rfl, rfl, trivial⟩, ⟨rfl, trivial⟩⟩
   ·replace H := iff_ h9 H
    refine zbp ?_
    replace H := outl H hq8
    exact ⟨(i5, l7), H, ⟨rfl, rfl, trivial⟩, ⟨rfl, trivial⟩⟩
  ·rintro ⟨i19, s20⟩ H
   replace H : zcm i19 s20 = some r := H
   unfold zcm at H
   refine zac ?_
   refine zab hN rfl ?_
   refine zaa (zah (.row _ _) rfl) ?_
   refine qd rfl ?_
   obtain ⟨h21, H⟩ := gif H
   refine zau (z5j (C := zao) zp6 rfl rfl rfl h21) rfl ?_
   refine zal (z00 (C := zao) (zaf.mk [] []) zpi zp4 rfl rfl rfl rfl rfl h21) rfl ?_
   refine zac ?_
   refine zab hN rfl ?_
   refine zaa (zah (.row _ _) rfl) ?_
   refine qd rfl ?_
   obtain ⟨h22, H⟩ := gif H
   refine zvw (z6h (C := zao) 2 zp6 rfl (z2v (zaf.mk [] []) h21) rfl h22) rfl rfl ?_
   refine zaa (zbb (.row _ _) rfl) ?_
   refine zsy 4 2 900 rfl rfl (by rw [List.length_map]; exact (zyr h22)) rfl ?_
   refine zap ?_
   cases H
   exact ⟨trivial, [(4, .row 900 _)], ⟨rfl, trivial⟩, ⟨rfl, trivial⟩, rfl, .inr (.inl ⟨4, rfl, congrArg (Slot.row 900) (by simp <;> omega)⟩)⟩
theorem zrq (h1 : zaf) (c2 : Bs) (r : (Bool)) (H : zgc h1 c2 = some r) : Fn Tryz.prog 116 [vagg (zao h1), znf [[vstr c2]] 0 0] (zbe [za2 r]) := by
 refine ⟨by kernel_rfl, za7 (us := [za2 r]) Tryz.func116 rfl rfl rfl rfl fun X hN => ?_⟩
 unfold zgc at H
 refine zac ?_
 refine zab hN rfl ?_
 refine zal (zju 1 rfl) rfl ?_
 refine qe rfl ?_
 refine zac ?_
 refine zab hN rfl ?_
 refine zau (zf6 zng rfl rfl rfl) rfl ?_
 refine zaa (ze9 tyS9 rfl rfl rfl) ?_
 obtain ⟨r3, h4, H⟩ := bnd H
 refine zaa (zak (zm9 h1 c2 r3 h4) ⟨.inl rfl, .inl rfl, trivial⟩) ?_
 refine qe rfl ?_
 refine zap ?_
 cases H
 exact ⟨trivial, .inl rfl, trivial⟩
theorem zsl (l1 : (List zaf)) (name2 : Bs) (r : ((List zaf))) (H : zkh l1 name2 = some r) : Fn Tryz.prog 61 [vlst (List.map zao l1), vstr name2] (zbe [vlst (List.map zao r)]) := by
 refine ⟨by kernel_rfl, za7 (us := [vlst (List.map zao r)]) Tryz.func61 rfl rfl rfl rfl fun X hN => ?_⟩
 unfold zkh at H
 refine zac ?_
 refine zab hN rfl ?_
 refine zal (ztl 1 rfl rfl) rfl ?_
 refine qe rfl ?_
 refine zac ?_
 refine zto 1 [vstr name2] rfl rfl ?_
 refine zab hN rfl ?_
 refine qd rfl ?_
 obtain ⟨r3, h4, H⟩ := bnd H
 refine zcv (rn [(900, 2)]) [] [(900, _)] (zcc l1 r3 h4) ⟨rfl, trivial⟩ ⟨.inl (.inl rfl), trivial⟩ trivial rfl ?_
 refine zaa (ztj (us := [_]) ⟨rfl, trivial⟩) ?_
 obtain ⟨r5, h6, H⟩ := bnd H
 refine zcv (rn [(0, 2), (900, 3)]) [(0, _, _, none)] [(900, _)] (zgq r3 (fun (a0 : zaf) => zgc a0 name2) 116 [znf [[vstr name2]] 0 0] (fun a0 r h => zrq a0 name2 r h) r5 h6) ⟨rfl, rfl, trivial⟩ ⟨.inl (.inl rfl), .inl (.inl rfl), trivial⟩ ⟨⟨⟨rfl, rfl, rfl⟩, trivial⟩, trivial⟩ rfl ?_
 refine zaa (zbb (.row _ _) rfl) ?_
 refine zap ?_
 cases H
 exact ⟨trivial, zov rfl rfl, trivial⟩
theorem ztd (l1 : (List zaf)) (name2 : Bs) (r : ((List zaf) × Int)) (H : zl8 l1 name2 = some r) : Fn Tryz.prog 13 [vlst (List.map zao l1), vstr name2] (zbe [vlst (List.map zao r.1), vint r.2]) := by
 refine ⟨by kernel_rfl, za7 (us := [vlst (List.map zao r.1), vint r.2]) Tryz.func13 rfl rfl rfl rfl fun X hN => ?_⟩
 unfold zl8 at H
 refine zac ?_
 refine zab hN rfl ?_
 refine qe rfl ?_
 refine qe rfl ?_
 refine zac ?_
 refine zac ?_
 refine zab hN rfl ?_
 refine qd rfl ?_
 refine qd rfl ?_
 obtain ⟨r3, h4, H⟩ := bnd H
 refine zaa (zak (zmc l1 name2 r3 h4) ⟨.inl rfl, .inl rfl, trivial⟩) ?_
 refine qe rfl ?_
 refine zac ?_
 refine zab hN rfl ?_
 refine qd rfl ?_
 refine zaa (zfw rfl rfl) ?_
 refine zai _ rfl (fun h5 => ?_) (fun h5 => ?_)
 ·replace H := ift h5 H
  refine zac ?_
  refine zab hN rfl ?_
  refine qd rfl ?_
  refine qe rfl ?_
  refine qe rfl ?_
  refine zap ?_
  cases H
  exact ⟨trivial, .inr ⟨rfl, rfl⟩, .inl rfl, trivial⟩
 ·replace H := iff_ h5 H
  refine zan ?_
  refine zac ?_
  refine zab hN rfl ?_
  refine qd rfl ?_
  refine qd rfl ?_
  obtain ⟨r6, h7, H⟩ := bnd H
  refine zaa (zak (zsl l1 name2 r6 h7) ⟨.inl rfl, .inl rfl, trivial⟩) ?_
  refine qe rfl ?_
  refine qe rfl ?_
  refine zap ?_
  cases H
  exact ⟨trivial, .inl rfl, .inl rfl, trivial⟩
theorem zqw (is1 : Bool) (e2 : Int) (r : (Int)) (H : zkl is1 e2 = some r) : Fn Tryz.prog 16 [za2 is1, vint e2] (zbe [vint r]) := by
 refine ⟨by kernel_rfl, za7 (us := [vint r]) Tryz.func16 rfl rfl rfl rfl fun X hN => ?_⟩
 unfold zkl at H
 refine zac ?_
 refine zab hN rfl ?_
 refine qe rfl ?_
 refine zac ?_
 refine zac ?_
 refine zab hN rfl ?_
 refine qd rfl ?_
 refine zai _ rfl (fun h3 => ?_) (fun h3 => ?_)
 ·replace H := ift h3 H
  refine zac ?_
  refine zab hN rfl ?_
  refine qd rfl ?_
  refine qe rfl ?_
  refine zap ?_
  cases H
  exact ⟨trivial, .inl rfl, trivial⟩
 ·replace H := iff_ h3 H
  refine zan ?_
  refine zac ?_
  refine zab hN rfl ?_
  refine qe rfl ?_
  refine zap ?_
  cases H
  exact ⟨trivial, .inl rfl, trivial⟩
theorem zqx (l1 : (List Int)) (r : (Int)) (H : zkn l1 = some r) : Fn Tryz.prog 14 [vlst (List.map zpz l1)] (zbe [vint r]) := by
 refine ⟨by kernel_rfl, za7 (us := [vint r]) Tryz.func14 rfl rfl rfl rfl fun X hN => ?_⟩
 unfold zkn at H
 refine zac ?_
 refine zab hN rfl ?_
 refine qe rfl ?_
 refine zac ?_
 refine zac ?_
 refine zab hN rfl ?_
 refine qd rfl ?_
 refine zaa (zks z82 rfl) ?_
 refine qd rfl ?_
 refine zat ?_
 obtain ⟨h4, H⟩ := gif H
 refine zed (fun (k2 : Nat) (s : Unit) => [(5, .dat (vlst (List.map zpz l1))), (6, .dat (vint (l1.length : Int))), (7, .dat (vint (k2 : Int)))]) (fun (k2 : Nat) (s : Unit) => []) () H ⟨rfl, rfl, rfl, trivial⟩ trivial (fun _ _ => rfl) ?_ ?_
 ·rintro ⟨⟩ H
  replace H : znv = some r := H
  unfold znv at H
  refine zac ?_
  refine zab hN rfl ?_
  refine zaa (za3 rfl rfl) ?_
  refine zac ?_
  refine zai _ rfl (fun h => (lt_t h).elim) (fun h => ?_)
  refine zbp ?_
  refine zac ?_
  refine zab hN rfl ?_
  refine qe rfl ?_
  refine zap ?_
  cases H
  exact ⟨trivial, .inl rfl, trivial⟩
 ·rintro k2 x5 ⟨⟩ q3 h6 h7 H hq3
  replace H : zi5 k2 x5 = some q3 := H
  unfold zi5 at H
  refine zac ?_
  refine zab hN rfl ?_
  refine zaa (za3 rfl rfl) ?_
  refine zac ?_
  refine zai _ rfl (fun h => ?_) (fun h => (lt_f h6 h).elim)
  refine zan ?_
  refine zac ?_
  refine zat ?_
  refine zac ?_
  refine zab hN rfl ?_
  refine zaa (zn2 z86 (fun _ => rfl) rfl rfl h7) ?_
  refine zaa (ze9 z83 rfl (zjk h7) rfl) ?_
  refine qe rfl ?_
  refine zac ?_
  refine zab hN rfl ?_
  refine qd rfl ?_
  refine zaa (zfw rfl rfl) ?_
  refine zai _ rfl (fun h8 => ?_) (fun h8 => ?_)
  ·replace H := ift h8 H
   refine zac ?_
   refine zab hN rfl ?_
   refine qd rfl ?_
   refine qe rfl ?_
   refine zap ?_
   replace H := retl H hq3
   cases H
   exact ⟨trivial, .inl rfl, trivial⟩
  ·replace H := iff_ h8 H
   refine zan ?_
   refine zab hN rfl ?_
   refine zaa (zfc rfl rfl (by omega)) ?_
   refine qd rfl ?_
   exact ⟨_, zio H, ⟨rfl, rfl, rfl, trivial⟩, trivial⟩
theorem znq (a1 : Bs) (b2 : Bs) (r : (Bool)) (H : zi2 a1 b2 = some r) : Fn Tryz.prog 66 [vstr a1, vstr b2] (zbe [za2 r]) := by
 refine ⟨by kernel_rfl, za7 (us := [za2 r]) Tryz.func66 rfl rfl rfl rfl fun X hN => ?_⟩
 unfold zi2 at H
 refine zac ?_
 refine zab hN rfl ?_
 refine qe rfl ?_
 refine zac ?_
 refine zab hN rfl ?_
 refine qd rfl ?_
 obtain ⟨r3, h4, H⟩ := bnd H
 refine zaa (zak (zjg a1 r3 h4) ⟨.inl rfl, trivial⟩) ?_
 refine qd rfl ?_
 obtain ⟨r5, h6, H⟩ := bnd H
 refine zaa (zak (zjg b2 r5 h6) ⟨.inl rfl, trivial⟩) ?_
 refine zaa (zdw rfl rfl) ?_
 refine qe rfl ?_
 refine zap ?_
 cases H
 exact ⟨trivial, .inl rfl, trivial⟩
theorem zsp (l1 : (List zaf)) (name2 : Bs) (r : ((List Bs))) (H : zkj l1 name2 = some r) : Fn Tryz.prog 19 [vlst (List.map zao l1), vstr name2] (zbe [vlst (List.map zay r)]) := by
 refine ⟨by kernel_rfl, za7 (us := [vlst (List.map zay r)]) Tryz.func19 rfl rfl rfl rfl fun X hN => ?_⟩
 unfold zkj at H
 refine zac ?_
 refine zab hN rfl ?_
 refine qe rfl ?_
 refine zac ?_
 refine zab hN rfl ?_
 refine qe rfl ?_
 refine zac ?_
 refine zac ?_
 refine zab hN rfl ?_
 refine qd rfl ?_
 refine zaa (zks zpi rfl) ?_
 refine qd rfl ?_
 refine zat ?_
 refine zeh 5 1 9 1 rfl rfl rfl ?_
 obtain ⟨h6, H⟩ := gif H
 refine zed (fun (k4 : Nat) (s : (List Bs)) => [(1, .dat (vstr name2)), (5, .row 1 s.length), (8, .dat (vlst (List.map zao l1))), (9, .dat (vint (l1.length : Int))), (10, .dat (vint (k4 : Int)))]) (fun (k4 : Nat) (s : (List Bs)) => [(1, .row 9 1 (List.map zay s))]) [] H ⟨rfl, rfl, rfl, rfl, rfl, trivial⟩ ⟨rfl, trivial⟩ (fun _ _ => rfl) ?_ ?_
 ·rintro l3 H
  replace H : zle l3 = some r := H
  unfold zle at H
  refine zac ?_
  refine zab hN rfl ?_
  refine zaa (za3 rfl rfl) ?_
  refine zac ?_
  refine zai _ rfl (fun h => (lt_t h).elim) (fun h => ?_)
  refine zbp ?_
  refine zac ?_
  refine zab hN rfl ?_
  refine zaa (zah (.row _ _) rfl) ?_
  refine zaa (zbb (.row _ _) rfl) ?_
  refine zap ?_
  cases H
  exact ⟨trivial, zov rfl rfl, trivial⟩
 ·rintro k4 x7 l3 q5 h8 h9 H hq5
  replace H : zhe name2 k4 x7 l3 = some q5 := H
  unfold zhe at H
  refine zac ?_
  refine zab hN rfl ?_
  refine zaa (za3 rfl rfl) ?_
  refine zac ?_
  refine zai _ rfl (fun h => ?_) (fun h => (lt_f h8 h).elim)
  refine zan ?_
  refine zax (ι := (List Bs)) (fun i => [(1, .dat (vstr name2)), (5, .row 1 i.length), (8, .dat (vlst (List.map zao l1))), (9, .dat (vint (l1.length : Int))), (10, .dat (vint (k4 : Int)))]) (fun i => [(1, .row 9 1 (List.map zay i))]) (fun i => ziu i = some q5) (fun i => rfl) ?_ ?_
  ·skip
   refine zat ?_
   refine zac ?_
   refine zab hN rfl ?_
   refine zaa (zn2 zp6 (fun _ => rfl) rfl rfl h9) ?_
   refine zaa (zip zng rfl (zjk h9) rfl) ?_
   refine zal (zdf 2 zp4 rfl) rfl ?_
   refine zal (zb9 zng rfl rfl rfl rfl) rfl ?_
   refine zac ?_
   refine zab hN rfl ?_
   refine zaa (zaw zoc rfl) ?_
   refine zau (zav tyS9 rfl rfl) rfl ?_
   refine qd rfl ?_
   obtain ⟨r10, h11, H⟩ := bnd H
   refine zaa (zak (znq x7.Name name2 r10 h11) ⟨.inl rfl, .inl rfl, trivial⟩) ?_
   refine zai _ rfl (fun h12 => ?_) (fun h12 => ?_)
   ·replace H := ift h12 H
    refine zab hN rfl ?_
    refine zaa (zah (.row _ _) rfl) ?_
    refine zaa (zaw ztt rfl) ?_
    refine zau (zav tyS9 rfl rfl) rfl ?_
    refine zaa (za4 (u' := vlst (List.map zay [x7.Value])) (zcl [[_]] zlg ⟨rfl, .inl ⟨_, rfl, rfl, rfl⟩, rfl, trivial⟩ rfl rfl) rfl) ?_
    obtain ⟨h13, H⟩ := gif H
    refine zal (zm1 zlg (fun _ => rfl) rfl rfl rfl ⟨by simp, by first | (simp; done) | simpa using h13⟩ rfl) rfl ?_
    refine zaa (zbb (.row _ _) rfl) ?_
    exact ⟨(l3 ++ [x7.Value]), H, ⟨rfl, rfl, rfl, rfl, rfl, trivial⟩, ⟨rfl, trivial⟩⟩
   ·replace H := iff_ h12 H
    refine zan ?_
    exact ⟨l3, H, ⟨rfl, rfl, rfl, rfl, rfl, trivial⟩, ⟨rfl, trivial⟩⟩
  ·rintro out14 H
   replace H : ziu out14 = some q5 := H
   unfold ziu at H
   refine zab hN rfl ?_
   refine zaa (zfc rfl rfl (by omega)) ?_
   refine qd rfl ?_
   exact ⟨_, zio H, ⟨rfl, rfl, rfl, rfl, rfl, trivial⟩, ⟨rfl, trivial⟩⟩
theorem zrc (h1 : zaf) (c2 : Bs) (r : (Bool)) (H : zfz h1 c2 = some r) : Fn Tryz.prog 68 [vagg (zao h1), znf [[vstr c2]] 0 0] (zbe [za2 r]) := by
 refine ⟨by kernel_rfl, za7 (us := [za2 r]) Tryz.func68 rfl rfl rfl rfl fun X hN => ?_⟩
 unfold zfz at H
 refine zac ?_
 refine zab hN rfl ?_
 refine zal (zju 1 rfl) rfl ?_
 refine qe rfl ?_
 refine zac ?_
 refine zab hN rfl ?_
 refine zaa (zaw zoc rfl) ?_
 refine zau (zav tyS9 rfl rfl) rfl ?_
 refine zaa (ze9 tyS9 rfl rfl rfl) ?_
 obtain ⟨r3, h4, H⟩ := bnd H
 refine zaa (zak (znq h1.Name c2 r3 h4) ⟨.inl rfl, .inl rfl, trivial⟩) ?_
 refine qe rfl ?_
 refine zap ?_
 cases H
 exact ⟨trivial, .inl rfl, trivial⟩
theorem zou (l1 : (List zaf)) (name2 : Bs) (r : ((List zaf))) (H : zit l1 name2 = some r) : Fn Tryz.prog 20 [vlst (List.map zao l1), vstr name2] (zbe [vlst (List.map zao r)]) := by
 refine ⟨by kernel_rfl, za7 (us := [vlst (List.map zao r)]) Tryz.func20 rfl rfl rfl rfl fun X hN => ?_⟩
 unfold zit at H
 refine zac ?_
 refine zab hN rfl ?_
 refine zal (ztl 1 rfl rfl) rfl ?_
 refine qe rfl ?_
 refine zac ?_
 refine zto 1 [vstr name2] rfl rfl ?_
 refine zab hN rfl ?_
 refine qd rfl ?_
 obtain ⟨r3, h4, H⟩ := bnd H
 refine zcv (rn [(900, 2)]) [] [(900, _)] (zcc l1 r3 h4) ⟨rfl, trivial⟩ ⟨.inl (.inl rfl), trivial⟩ trivial rfl ?_
 refine zaa (ztj (us := [_]) ⟨rfl, trivial⟩) ?_
 obtain ⟨r5, h6, H⟩ := bnd H
 refine zcv (rn [(0, 2), (900, 3)]) [(0, _, _, none)] [(900, _)] (zgq r3 (fun (a0 : zaf) => zfz a0 name2) 68 [znf [[vstr name2]] 0 0] (fun a0 r h => zrc a0 name2 r h) r5 h6) ⟨rfl, rfl, trivial⟩ ⟨.inl (.inl rfl), .inl (.inl rfl), trivial⟩ ⟨⟨⟨rfl, rfl, rfl⟩, trivial⟩, trivial⟩ rfl ?_
 refine zaa (zbb (.row _ _) rfl) ?_
 refine zap ?_
 cases H
 exact ⟨trivial, zov rfl rfl, trivial⟩
theorem zr7 (h1 : zaf) (c2 : Bs) (r : (Bool)) (H : zha h1 c2 = some r) : Fn Tryz.prog 70 [vagg (zao h1), znf [[vstr c2]] 0 0] (zbe [za2 r]) := by
 refine ⟨by kernel_rfl, za7 (us := [za2 r]) Tryz.func70 rfl rfl rfl rfl fun X hN => ?_⟩
 unfold zha at H
 refine zac ?_
 refine zab hN rfl ?_
 refine zal (zju 1 rfl) rfl ?_
 refine qe rfl ?_
 refine zac ?_
 refine zab hN rfl ?_
 refine zaa (zaw zoc rfl) ?_
 refine zau (zav tyS9 rfl rfl) rfl ?_
 refine zaa (ze9 tyS9 rfl rfl rfl) ?_
 obtain ⟨r3, h4, H⟩ := bnd H
 refine zaa (zak (znq h1.Name c2 r3 h4) ⟨.inl rfl, .inl rfl, trivial⟩) ?_
 refine qe rfl ?_
 refine zap ?_
 cases H
 exact ⟨trivial, .inl rfl, trivial⟩
theorem ztf (l1 : (List zaf)) (name2 : Bs) (value3 : Bs) (r : ((List zaf))) (H : zk5 l1 name2 value3 = some r) : Fn Tryz.prog 21 [vlst (List.map zao l1), vstr name2, vstr value3] (zbe [vlst (List.map zao r)]) := by
 refine ⟨by kernel_rfl, za7 (us := [vlst (List.map zao r)]) Tryz.func21 rfl rfl rfl rfl fun X hN => ?_⟩
 unfold zk5 at H
 refine zac ?_
 refine zab hN rfl ?_
 refine zal (ztl 1 rfl rfl) rfl ?_
 refine qe rfl ?_
 refine zac ?_
 refine zto 1 [vstr name2] rfl rfl ?_
 refine zab hN rfl ?_
 refine qd rfl ?_
 refine zaa (ztj (us := [_]) ⟨rfl, trivial⟩) ?_
 obtain ⟨r4, h5, H⟩ := bnd H
 refine zaa (zak (zhc l1 (fun (a0 : zaf) => zha a0 name2) 70 [znf [[vstr name2]] 0 0] (fun a0 r h => zr7 a0 name2 r h) r4 h5) ⟨.inl rfl, .inl rfl, trivial⟩) ?_
 refine qe rfl ?_
 refine zac ?_
 refine zac ?_
 refine zab hN rfl ?_
 refine qd rfl ?_
 refine zaa (za3 rfl rfl) ?_
 refine zai _ rfl (fun h6 => ?_) (fun h6 => ?_)
 ·replace H := ift h6 H
  refine zac ?_
  refine zik mixed hN rfl rfl ?_
  refine qd rfl ?_
  obtain ⟨r7, h8, H⟩ := bnd H
  refine zcv (rn [(900, 2)]) [] [(900, _)] (zcc l1 r7 h8) ⟨rfl, trivial⟩ ⟨.inl (.inl rfl), trivial⟩ trivial rfl ?_
  refine zaa (ze9 tyS9 rfl rfl rfl) ?_
  refine qd rfl ?_
  refine zaa (za4 (u' := vagg (zao (zaf.mk name2 value3))) (zd5 [(0, [vstr name2]), (1, [vstr value3])] zp4 zvj rfl ⟨rfl, .inl ⟨_, rfl, rfl, rfl⟩, rfl, rfl, .inl ⟨_, rfl, rfl, rfl⟩, rfl, trivial⟩) rfl) ?_
  refine zaa (za4 (u' := vlst (List.map zao [(zaf.mk name2 value3)])) (zcl [_] zob ⟨rfl, .inr rfl, rfl, trivial⟩ rfl rfl) rfl) ?_
  obtain ⟨h9, H⟩ := gif H
  refine zal (zm1 zob (fun _ => rfl) rfl rfl rfl ⟨by simp, by first | (simp; done) | simpa using h9⟩ rfl) rfl ?_
  refine zaa (zbb (.row _ _) rfl) ?_
  refine ⟨rfl, ?_⟩
  refine zap ?_
  cases H
  exact ⟨trivial, zov rfl rfl, trivial⟩
 ·replace H := iff_ h6 H
  refine zan ?_
  refine zac ?_
  refine zik mixed hN rfl rfl ?_
  refine qd rfl ?_
  refine qd rfl ?_
  obtain ⟨l10, h11, H⟩ := bnd H
  refine zaa (z5i zp6 (fun _ => rfl) rfl rfl rfl h11) ?_
  obtain ⟨r12, h13, H⟩ := bnd H
  refine zcv (rn [(900, 3)]) [] [(900, _)] (zcc l10 r12 h13) ⟨rfl, trivial⟩ ⟨.inl (.inl rfl), trivial⟩ trivial rfl ?_
  refine qd rfl ?_
  refine qd rfl ?_
  obtain ⟨x14, h15, H⟩ := bnd H
  refine zaa (zy2 zp6 (fun _ => rfl) rfl rfl h15) ?_
  refine zaa (z30 zoc rfl) ?_
  refine zaa (ze9 tyS9 rfl (zjk (zk2 h15).2) rfl) ?_
  refine qd rfl ?_
  refine zaa (za4 (u' := vagg (zao (zaf.mk x14.Name value3))) (zd5 [(0, [vstr x14.Name]), (1, [vstr value3])] zp4 zvj rfl ⟨rfl, .inl ⟨_, rfl, rfl, rfl⟩, rfl, rfl, .inl ⟨_, rfl, rfl, rfl⟩, rfl, trivial⟩) rfl) ?_
  refine zaa (za4 (u' := vlst (List.map zao [(zaf.mk x14.Name value3)])) (zcl [_] zob ⟨rfl, .inr rfl, rfl, trivial⟩ rfl rfl) rfl) ?_
  obtain ⟨h16, H⟩ := gif H
  refine zal (zm1 zob (fun _ => rfl) rfl rfl rfl ⟨by simp, by first | (simp; done) | simpa using h16⟩ rfl) rfl ?_
  refine zaa (zbb (.row _ _) rfl) ?_
  refine ⟨rfl, ?_⟩
  refine zac ?_
  refine zik mixed hN rfl rfl ?_
  refine zaa (zah (.row _ _) rfl) ?_
  refine qd rfl ?_
  refine qd rfl ?_
  refine zaa (za8 _ rfl rfl (.inl ⟨rfl, rfl⟩)) ?_
  obtain ⟨l17, h18, H⟩ := bnd H
  refine zaa (z5i zp6 (fun _ => rfl) rfl rfl rfl h18) ?_
  refine zaa (ze9 tyS9 rfl rfl rfl) ?_
  obtain ⟨r19, h20, H⟩ := bnd H
  refine zaa (zak (zou l17 name2 r19 h20) ⟨.inl rfl, .inl rfl, trivial⟩) ?_
  obtain ⟨h21, H⟩ := gif H
  refine zal (z5n zob (fun _ => rfl) rfl rfl rfl h21 rfl) rfl ?_
  refine zaa (zbb (.row _ _) rfl) ?_
  refine ⟨rfl, ?_⟩
  refine zap ?_
  cases H
  exact ⟨trivial, zov rfl rfl, trivial⟩
theorem zm7 (s1 : (List Bs)) (s2 : (List Bs)) (r : (Bool)) (H : zfq s1 s2 = some r) : Fn Tryz.prog 22 [vlst (List.map zay s1), vlst (List.map zay s2)] (zbe [za2 r]) := by
 refine ⟨by kernel_rfl, za7 (us := [za2 r]) Tryz.func22 rfl rfl rfl rfl fun X hN => ?_⟩
 unfold zfq at H
 refine zac ?_
 refine zab hN rfl ?_
 refine qe rfl ?_
 refine zac ?_
 refine zac ?_
 refine zab hN rfl ?_
 refine qd rfl ?_
 refine zaa (zks zse rfl) ?_
 refine qd rfl ?_
 refine zaa (zks zse rfl) ?_
 refine zaa (zfw rfl rfl) ?_
 refine zai _ rfl (fun h3 => ?_) (fun h3 => ?_)
 ·replace H := ift h3 H
  refine zac ?_
  refine zab hN rfl ?_
  refine qe rfl ?_
  refine zap ?_
  cases H
  exact ⟨trivial, .inl rfl, trivial⟩
 ·replace H := iff_ h3 H
  refine zan ?_
  refine zac ?_
  refine zac ?_
  refine zab hN rfl ?_
  refine qd rfl ?_
  refine zaa (zks zse rfl) ?_
  refine qd rfl ?_
  refine zat ?_
  obtain ⟨h6, H⟩ := gif H
  refine zed (fun (k4 : Nat) (s : Unit) => [(0, .dat (vlst (List.map zay s1))), (1, .dat (vlst (List.map zay s2))), (12, .dat (vint (s1.length : Int))), (13, .dat (vint (k4 : Int)))]) (fun (k4 : Nat) (s : Unit) => []) () H ⟨rfl, rfl, rfl, rfl, trivial⟩ trivial (fun _ _ => rfl) ?_ ?_
  ·rintro ⟨⟩ H
   replace H : zhr = some r := H
   unfold zhr at H
   refine zac ?_
   refine zab hN rfl ?_
   refine zaa (za3 rfl rfl) ?_
   refine zac ?_
   refine zai _ rfl (fun h => (lt_t h).elim) (fun h => ?_)
   refine zbp ?_
   refine zac ?_
   refine zab hN rfl ?_
   refine qe rfl ?_
   refine zap ?_
   cases H
   exact ⟨trivial, .inl rfl, trivial⟩
  ·rintro k4 x7 ⟨⟩ q5 h8 h9 H hq5
   replace H : zhq s2 k4 x7 = some q5 := H
   unfold zhq at H
   refine zac ?_
   refine zab hN rfl ?_
   refine zaa (za3 rfl rfl) ?_
   refine zac ?_
   refine zai _ rfl (fun h => ?_) (fun h => (lt_f h8 h).elim)
   refine zan ?_
   refine zac ?_
   refine zat ?_
   refine zac ?_
   refine zab hN rfl ?_
   refine qd rfl ?_
   refine qe rfl ?_
   refine zac ?_
   refine zik mixed hN rfl rfl ?_
   refine qd rfl ?_
   refine qd rfl ?_
   refine zaa (zn2 zut (fun _ => rfl) rfl rfl h9) ?_
   refine zaa (ze9 tyS9 rfl (zjk h9) rfl) ?_
   refine qd rfl ?_
   refine qd rfl ?_
   obtain ⟨x10, h11, H⟩ := bnd H
   refine zaa (zn2 zut (fun _ => rfl) rfl rfl h11) ?_
   refine zaa (ze9 tyS9 rfl (zjk h11) rfl) ?_
   refine zaa (zon rfl rfl) ?_
   refine ⟨rfl, ?_⟩
   refine zai _ rfl (fun h12 => ?_) (fun h12 => ?_)
   ·replace H := ift h12 H
    refine zac ?_
    refine zab hN rfl ?_
    refine qe rfl ?_
    refine zap ?_
    replace H := retl H hq5
    cases H
    exact ⟨trivial, .inl rfl, trivial⟩
   ·replace H := iff_ h12 H
    refine zan ?_
    refine zab hN rfl ?_
    refine zaa (zfc rfl rfl (by omega)) ?_
    refine qd rfl ?_
    exact ⟨_, zio H, ⟨rfl, rfl, rfl, rfl, trivial⟩, trivial⟩
theorem zst  (r : (Bool)) (H : zkm  = some r) : Fn Tryz.prog 24 [] (zbe [za2 r]) := by
 refine ⟨by kernel_rfl, za7 (us := [za2 r]) Tryz.func24 rfl rfl rfl rfl fun X hN => ?_⟩
 unfold zkm at H
 refine zac ?_
 refine zab hN rfl ?_
 refine qe rfl ?_
 refine zac ?_
 refine zab hN rfl ?_
 obtain ⟨r1, h2, H⟩ := bnd H
 refine zaa (zak (zny [47, 97, 47, 46, 46, 47, 98] r1 h2) ⟨.inl rfl, trivial⟩) ?_
 refine qd rfl ?_
 refine zaa (zbj rfl rfl) ?_
 refine zaa (zbj rfl rfl) ?_
 refine qe rfl ?_
 refine qe rfl ?_
 refine zac ?_
 refine zab hN rfl ?_
 refine qd rfl ?_
 refine zaa (zb6 rfl rfl) ?_
 refine qd rfl ?_
 refine zig rfl rfl (fun hc => zah (.dat _) rfl) ?_
 refine zig rfl rfl (fun hc => zdw (cnd (c := (decide (r1.2 = 0))) hc) rfl) ?_
 refine zaa (zco rfl (fun hb => (cnd (c := (decide (r1.2 = 0))) hb)) rfl) ?_
 refine qe rfl ?_
 refine zap ?_
 cases H
 exact ⟨trivial, .inl rfl, trivial⟩
end Go.Proofs.YthgblfklceopgaaGreatDoor
