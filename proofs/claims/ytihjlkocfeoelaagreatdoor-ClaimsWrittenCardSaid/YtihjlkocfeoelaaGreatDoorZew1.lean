/- Walks along the models. Printed by a program. -/
import Derived.Test.YtihjlkocfeoelaaGreatDoorZec
namespace Go.Proofs.YtihjlkocfeoelaaGreatDoor
open Go.RowKit
set_option linter.unusedVariables false
set_option maxRecDepth 100000
set_option maxHeartbeats 2000000
theorem z89 (x1:Int) (n2:Int) (r:(Int)) (H:z5m x1 n2=some r):Fn Tryz.prog 47 [vint x1,vint n2] (z2f [vint r]):=by
 refine ⟨by kernel_rfl,z2a (us:=[vint r]) Tryz.func47 rfl rfl rfl rfl fun X hN => ?_⟩
 unfold z5m at H
 refine z0c ?_
 refine z0b hN rfl ?_
 refine qe rfl ?_
 refine z0c ?_
 refine z0c ?_
 refine z0b hN rfl ?_
 refine qd rfl ?_
 refine z0a (z1i rfl rfl) ?_
 refine z0i _ rfl (fun h3 => ?_) (fun h3 => ?_)
 ·replace H:=ift h3 H
  refine z0c ?_
  refine z0b hN rfl ?_
  refine qe rfl ?_
  refine z0q ?_
  cases H
  exact ⟨trivial,.inl rfl,trivial⟩
 ·replace H:=iff_ h3 H
  refine z0l ?_
  refine z0c ?_
  refine z0b hN rfl ?_
  refine qd rfl ?_
  refine qd rfl ?_
  obtain ⟨h4,H⟩:=gif H
  refine z0a (y7z rfl rfl h4) ?_
  refine qe rfl ?_
  refine z0z (ι:=Int) (fun i=>[(0,.dat (vint i))]) (fun i=>[]) (fun i=>z5x i=some r) (fun i=>rfl) ?_ ?_
  ·skip
   refine z0c ?_
   refine z0b hN rfl ?_
   refine qd rfl ?_
   refine z0a (z1i rfl rfl) ?_
   refine z0i _ rfl (fun h5 => ?_) (fun h5 => ?_)
   ·replace H:=ift h5 H
    refine z0b hN rfl ?_
    refine qd rfl ?_
    refine qd rfl ?_
    refine z0a (z1l _ rfl rfl (.inl ⟨rfl,rfl⟩)) ?_
    refine qe rfl ?_
    exact ⟨wr ((Int.tmod x1 n2)+n2),H,⟨rfl,trivial⟩,trivial⟩
   ·replace H:=iff_ h5 H
    refine z0l ?_
    exact ⟨(Int.tmod x1 n2),H,⟨rfl,trivial⟩,trivial⟩
  ·rintro x6 H
   replace H:z5x x6=some r:=H
   unfold z5x at H
   refine z0c ?_
   refine z0b hN rfl ?_
   refine qd rfl ?_
   refine qe rfl ?_
   refine z0q ?_
   cases H
   exact ⟨trivial,.inl rfl,trivial⟩
theorem z1t (s1:z0d) (n2:Int) (r:(Int×z0d)) (H:z08 s1 n2=some r):Imp Tryz.prog 16 25 (z0p s1) [vint n2] (z2f [vint r.1]) (z0p r.2):=by
 refine z81 (us:=[vint r.1]) (cs':=(z0p r.2)) (by kernel_rfl) Tryz.func16 rfl rfl rfl rfl fun X bl hN => ?_
 unfold z08 at H
 refine z0c ?_
 refine z0b hN rfl ?_
 refine qe rfl ?_
 refine z0c ?_
 refine z0b hN rfl ?_
 refine z0a (z0h (.ptr _ _) rfl) ?_
 refine z0a (z1q rfl) ?_
 refine z0a (z0n y3e rfl) ?_
 refine z0u (z0r tyS3 rfl rfl) rfl ?_
 refine z0a (z1l _ rfl rfl (.inl ⟨rfl,rfl⟩)) ?_
 refine z0a (z1q rfl) ?_
 refine z0a (z0n y3e rfl) ?_
 refine z0k (z1g tyS3 rfl rfl rfl rfl) rfl ?_
 refine z0c ?_
 refine z0c ?_
 refine z0b hN rfl ?_
 refine z0a (z0h (.ptr _ _) rfl) ?_
 refine z0a (z1q rfl) ?_
 refine z0a (z0n y4y rfl) ?_
 refine z0u (z0r x2k rfl rfl) rfl ?_
 refine z0a (z6g x2i rfl) ?_
 refine z0a (z10 rfl rfl) ?_
 refine z0i _ rfl (fun h3 => ?_) (fun h3 => ?_)
 ·replace H:=ift h3 H
  refine z0c ?_
  refine z0b hN rfl ?_
  refine z0a (z0h (.ptr _ _) rfl) ?_
  refine z0a (z1q rfl) ?_
  refine z0a (z0n y3e rfl) ?_
  refine z0u (z0r tyS3 rfl rfl) rfl ?_
  refine z0a (z1l _ rfl rfl (.inr (.inr ⟨rfl,rfl⟩))) ?_
  refine qd rfl ?_
  obtain ⟨r4,h5,H⟩:=bnd H
  refine z0a (z0s (z89 (wr ((wr (s1.at_+1)) * 7919)) n2 r4 h5) ⟨.inl rfl,.inl rfl,trivial⟩) ?_
  refine qe rfl ?_
  refine z0q ?_
  cases H
  exact ⟨trivial,⟨.inl rfl,trivial⟩,rfl⟩
 ·replace H:=iff_ h3 H
  refine z0l ?_
  refine z0c ?_
  refine z5v mixed hN rfl rfl ?_
  refine z0a (z0h (.ptr _ _) rfl) ?_
  refine z0a (z1q rfl) ?_
  refine z0a (z0n y3e rfl) ?_
  refine z0u (z0r tyS3 rfl rfl) rfl ?_
  refine z0a (z1l _ rfl rfl (.inr (.inl ⟨rfl,rfl⟩))) ?_
  refine z0a (z0h (.ptr _ _) rfl) ?_
  refine z0a (z1q rfl) ?_
  refine z0a (z0n y4y rfl) ?_
  refine z0u (z0r x2k rfl rfl) rfl ?_
  refine z0a (z6g x2i rfl) ?_
  obtain ⟨h6,H⟩:=gif H
  refine z0a (y7z rfl rfl h6) ?_
  refine qe rfl ?_
  refine ⟨rfl,?_⟩
  refine z0c ?_
  refine z5v mixed hN rfl rfl ?_
  refine z0a (z0h (.ptr _ _) rfl) ?_
  refine z0a (z1q rfl) ?_
  refine z0a (z0n y3e rfl) ?_
  refine z0u (z0r tyS3 rfl rfl) rfl ?_
  refine z0a (z1l _ rfl rfl (.inr (.inl ⟨rfl,rfl⟩))) ?_
  refine z0a (z0h (.ptr _ _) rfl) ?_
  refine z0a (z1q rfl) ?_
  refine z0a (z0n y4y rfl) ?_
  refine z0u (z0r x2k rfl rfl) rfl ?_
  refine z0a (z6g x2i rfl) ?_
  obtain ⟨h7,H⟩:=gif H
  refine z0a (x40 rfl rfl h7.1 h7.2) ?_
  refine qe rfl ?_
  refine ⟨rfl,?_⟩
  refine z0c ?_
  refine z0b hN rfl ?_
  refine z0a (z0h (.ptr _ _) rfl) ?_
  refine z0a (z1q rfl) ?_
  refine z0a (z0n y4y rfl) ?_
  refine z0u (z0r x2k rfl rfl) rfl ?_
  refine qd rfl ?_
  obtain ⟨x8,h9,H⟩:=bnd H
  refine z0a (y1w x6p (fun _=>rfl) rfl rfl h9) ?_
  refine z0a (z1b tyS3 rfl (z5q (z8l h9).2) rfl) ?_
  obtain ⟨r10,h11,H⟩:=bnd H
  refine z0a (z0s (z89 x8 1073741824 r10 h11) ⟨.inl rfl,.inl rfl,trivial⟩) ?_
  refine qd rfl ?_
  refine qd rfl ?_
  refine z0a (z1l _ rfl rfl (.inl ⟨rfl,rfl⟩)) ?_
  refine z0a (z1l _ rfl rfl (.inr (.inr ⟨rfl,rfl⟩))) ?_
  refine z0a (z1l _ rfl rfl (.inl ⟨rfl,rfl⟩)) ?_
  refine qd rfl ?_
  obtain ⟨r12,h13,H⟩:=bnd H
  refine z0a (z0s (z89 (wr (r10+(wr (((wr ((wr (s1.at_+1)) - 1)) / (s1.L.length:Int)) * (wr (7919+(Int.tmod (wr ((wr (s1.at_+1)) - 1)) (s1.L.length:Int)))))))) n2 r12 h13) ⟨.inl rfl,.inl rfl,trivial⟩) ?_
  refine qe rfl ?_
  refine z0q ?_
  cases H
  exact ⟨trivial,⟨.inl rfl,trivial⟩,rfl⟩
theorem z09 (s1:z0d) (l2:(List Bs)) (r:(Bs×z0d)) (H:z03 s1 l2=some r):Imp Tryz.prog 17 25 (z0p s1) [vlst (List.map z0j l2)] (z2f [vstr r.1]) (z0p r.2):=by
 refine z81 (us:=[vstr r.1]) (cs':=(z0p r.2)) (by kernel_rfl) Tryz.func17 rfl rfl rfl rfl fun X bl hN => ?_
 unfold z03 at H
 refine z0c ?_
 refine z0b hN rfl ?_
 refine qe rfl ?_
 refine z0c ?_
 refine z0b hN rfl ?_
 refine qd rfl ?_
 refine z0a (z0h (.ptr _ _) rfl) ?_
 refine qd rfl ?_
 refine z0a (z6g z6n rfl) ?_
 obtain ⟨r3,h4,H⟩:=bnd H
 refine z0k (z1k (z1t s1 (l2.length:Int) r3 h4) rfl ⟨.inl rfl,trivial⟩ rfl) rfl ?_
 obtain ⟨x5,h6,H⟩:=bnd H
 refine z0a (y1w z7t (fun _=>rfl) rfl rfl h6) ?_
 refine z0a (z1b tyS9 rfl (z5q (z8l h6).2) rfl) ?_
 refine qe rfl ?_
 refine z0q ?_
 cases H
 exact ⟨trivial,⟨.inl rfl,trivial⟩,rfl⟩
theorem z60 (s1:z0d) (low2:Int) (high3:Int) (r:(Int×z0d)) (H:z30 s1 low2 high3=some r):Imp Tryz.prog 49 25 (z0p s1) [vint low2,vint high3] (z2f [vint r.1]) (z0p r.2):=by
 refine z81 (us:=[vint r.1]) (cs':=(z0p r.2)) (by kernel_rfl) Tryz.func49 rfl rfl rfl rfl fun X bl hN => ?_
 unfold z30 at H
 refine z0c ?_
 refine z0b hN rfl ?_
 refine qe rfl ?_
 refine z0c ?_
 refine z0c ?_
 refine z0b hN rfl ?_
 refine qd rfl ?_
 refine qd rfl ?_
 refine z0a (z1i rfl rfl) ?_
 refine z0i _ rfl (fun h4 => ?_) (fun h4 => ?_)
 ·replace H:=ift h4 H
  refine z0c ?_
  refine z0b hN rfl ?_
  refine qd rfl ?_
  refine qe rfl ?_
  refine z0q ?_
  cases H
  exact ⟨trivial,⟨.inl rfl,trivial⟩,rfl⟩
 ·replace H:=iff_ h4 H
  refine z0l ?_
  refine z0c ?_
  refine z0b hN rfl ?_
  refine qd rfl ?_
  refine z0a (z0h (.ptr _ _) rfl) ?_
  refine qd rfl ?_
  refine qd rfl ?_
  refine z0a (z1l _ rfl rfl (.inr (.inl ⟨rfl,rfl⟩))) ?_
  refine z0a (z1l _ rfl rfl (.inl ⟨rfl,rfl⟩)) ?_
  obtain ⟨r5,h6,H⟩:=bnd H
  refine z0k (z1k (z1t s1 (wr ((wr (high3 - low2))+1)) r5 h6) rfl ⟨.inl rfl,trivial⟩ rfl) rfl ?_
  refine z0a (z1l _ rfl rfl (.inl ⟨rfl,rfl⟩)) ?_
  refine qe rfl ?_
  refine z0q ?_
  cases H
  exact ⟨trivial,⟨.inl rfl,trivial⟩,rfl⟩
theorem z88 (s1:z0d) (r:((List Bs)×z0d)) (H:z1m s1=some r):Imp Tryz.prog 46 25 (z0p s1) [] (z2f [vlst (List.map z0j r.1)]) (z0p r.2):=by
 refine z81 (us:=[vlst (List.map z0j r.1)]) (cs':=(z0p r.2)) (by kernel_rfl) Tryz.func46 rfl rfl rfl rfl fun X bl hN => ?_
 unfold z1m at H
 refine z0c ?_
 refine z0b hN rfl ?_
 refine qe rfl ?_
 refine z0c ?_
 refine z0b hN rfl ?_
 refine qe rfl ?_
 refine z0c ?_
 refine z0c ?_
 refine z0b hN rfl ?_
 refine z0a (z0h (.ptr _ _) rfl) ?_
 obtain ⟨r2,h3,H⟩:=bnd H
 refine z0k (z1k (z60 s1 0 4 r2 h3) rfl ⟨.inl rfl,.inl rfl,trivial⟩ rfl) rfl ?_
 refine qd rfl ?_
 refine z01 ?_
 refine y0k 3 1 9 1 rfl rfl rfl ?_
 obtain ⟨h9,H⟩:=gif H
 refine y30 (fun (k7:Nat) (s:(List Int)×Int×(List Bs))=>[(0,.ptr 0 0),(3,.row 1 s.2.2.length),(5,.dat (vint r2.1)),(6,.dat (vint (k7:Int)))]) (fun (k7:Nat) (s:(List Int)×Int×(List Bs))=>[(0,.box (some bl) 25 [.dat (vlst (List.map y1t s.1)),.dat (vint s.2.1)]),(1,.row 9 1 (List.map z0j s.2.2))]) (r2.2.L,r2.2.at_,[]) H ⟨rfl,rfl,rfl,rfl,trivial⟩ ⟨rfl,rfl,trivial⟩ (fun _ _=>rfl) ?_ ?_
 ·rintro ⟨c4,c5,l6⟩ H
  replace H:z22 c4 c5 l6=some r:=H
  unfold z22 at H
  refine z0c ?_
  refine z0b hN rfl ?_
  refine z0a (z1i rfl rfl) ?_
  refine z0c ?_
  refine z0i _ rfl (fun h=>(x3w h).elim) (fun h => ?_)
  refine z34 ?_
  refine z0c ?_
  refine z0b hN rfl ?_
  refine z0a (z0h (.row _ _) rfl) ?_
  refine z0a (z2i (.row _ _) rfl) ?_
  refine z0q ?_
  cases H
  exact ⟨trivial,⟨y40 rfl rfl,trivial⟩,rfl⟩
 ·rintro k7 ⟨c4,c5,l6⟩ q8 h10 H hq8
  replace H:z13 k7 c4 c5 l6=some q8:=H
  unfold z13 at H
  refine z0c ?_
  refine z0b hN rfl ?_
  refine z0a (z1i rfl rfl) ?_
  refine z0c ?_
  refine z0i _ rfl (fun h => ?_) (fun h=>(x3x h10 h).elim)
  refine z0l ?_
  refine z0c ?_
  refine z01 ?_
  refine z0b hN rfl ?_
  refine z0a (z0h (.row _ _) rfl) ?_
  refine z0a (z0h (.ptr _ _) rfl) ?_
  refine z0a (z1e (u':=vlst (List.map z0j [[97],[97,58,42],[97,58,98],[97,58,98,58,42],[97,58,98,58,99],[98],[98,58,42],[98,58,99],[42]])) (z3t [[_],[_],[_],[_],[_],[_],[_],[_],[_]] z6o ⟨rfl,.inl ⟨_,rfl,rfl,rfl⟩,rfl,rfl,.inl ⟨_,rfl,rfl,rfl⟩,rfl,rfl,.inl ⟨_,rfl,rfl,rfl⟩,rfl,rfl,.inl ⟨_,rfl,rfl,rfl⟩,rfl,rfl,.inl ⟨_,rfl,rfl,rfl⟩,rfl,rfl,.inl ⟨_,rfl,rfl,rfl⟩,rfl,rfl,.inl ⟨_,rfl,rfl,rfl⟩,rfl,rfl,.inl ⟨_,rfl,rfl,rfl⟩,rfl,rfl,.inl ⟨_,rfl,rfl,rfl⟩,rfl,trivial⟩ rfl rfl) rfl) ?_
  obtain ⟨r11,h12,H⟩:=bnd H
  refine z0k (z1k (z09 (z0d.mk c4 c5) ([[97],[97,58,42],[97,58,98],[97,58,98,58,42],[97,58,98,58,99],[98],[98,58,42],[98,58,99],[42]]) r11 h12) rfl ⟨.inl rfl,trivial⟩ rfl) rfl ?_
  refine z0a (z1e (u':=vlst (List.map z0j [r11.1])) (z3t [[_]] z6o ⟨rfl,.inl ⟨_,rfl,rfl,rfl⟩,rfl,trivial⟩ rfl rfl) rfl) ?_
  obtain ⟨h13,H⟩:=gif H
  refine z0k (y41 z6o (fun _=>rfl) rfl rfl rfl ⟨by simp,by first | (simp; done) | simpa using h13⟩ rfl) rfl ?_
  refine z0a (z2i (.row _ _) rfl) ?_
  refine z0b hN rfl ?_
  refine z0a (z6q rfl rfl (by omega)) ?_
  refine qd rfl ?_
  exact ⟨_,z9j H,⟨rfl,rfl,rfl,rfl,trivial⟩,⟨rfl,rfl,trivial⟩⟩
theorem z6u (l r:List Bs) (H:z3m l=some r):FnG Tryz.prog 75 [.row 0 l.length] [(0,.rowA undef 9 1 (List.map z0j l))] (.dat (z2f [])) [(0,.rowA undef 9 1 (List.map z0j r))]:=by
 obtain ⟨hl,hr⟩:=y4d H
 refine x35 (fun s:Bs=>Value.string ⟨s.toArray⟩) r l (y04 H) (by kernel_rfl) (fun _=>rfl) (fun blk cap w hH hb => ?_) (fun h w => ?_)
 ·rw [hr]; exact Tryz.slices_Sort_string blk 0 cap l w hH hb (by omega)
 ·exact Tryz.slices_Sort_string_none none 0 w
theorem z6a (l r:List Bs) (H:z26 l=some r):FnG Tryz.prog 76 [.row 0 l.length] [(0,.row 9 1 (List.map z0j l))] (.row 900 r.length) [(900,.row 9 1 (List.map z0j r))]:=by
 obtain ⟨h1,rfl⟩:=y5i H
 exact x1e (fun s:Bs=>Value.string ⟨s.toArray⟩) [] (Lib.compact l) l (y3z l) (by kernel_rfl) (fun _=>rfl) (fun blk cap w hH hc=>Tryz.slices_Compact_string blk 0 cap l w hH (by omega) hc) (fun h a cap w=>Tryz.slices_Compact_string_empty a cap w)
theorem z54 (s1:(List Bs)) (p1:Bs→Option (Bool)) (fv1:Nat) (us1:List V) (hp1:∀ a0 r,p1 a0=some r→Fn Tryz.prog fv1 ([vstr a0]++us1) (z2f [z02 r])) (r:(Int)) (H:z25 s1 p1=some r):Fn Tryz.prog 61 [vlst (List.map z0j s1),vfn fv1 us1] (z2f [vint r]):=by
 refine ⟨by kernel_rfl,z2a (us:=[vint r]) Tryz.func61 rfl rfl rfl rfl fun X hN => ?_⟩
 unfold z25 at H
 refine z0c ?_
 refine z0b hN rfl ?_
 refine qe rfl ?_
 refine z0c ?_
 refine z0c ?_
 refine z0b hN rfl ?_
 refine qd rfl ?_
 refine z0a (z6g z6n rfl) ?_
 refine qd rfl ?_
 refine z01 ?_
 obtain ⟨h4,H⟩:=gif H
 refine z64 (fun (k2:Nat) (s:Unit)=>[(0,.dat (vlst (List.map z0j s1))),(1,.dat (vfn fv1 us1)),(7,.dat (vint (s1.length:Int))),(8,.dat (vint (k2:Int)))]) (fun (k2:Nat) (s:Unit)=>[]) () H ⟨rfl,rfl,rfl,rfl,trivial⟩ trivial (fun _ _=>rfl) ?_ ?_
 ·rintro ⟨⟩ H
  replace H:z4b=some r:=H
  unfold z4b at H
  refine z0c ?_
  refine z0b hN rfl ?_
  refine z0a (z1i rfl rfl) ?_
  refine z0c ?_
  refine z0i _ rfl (fun h=>(lt_t h).elim) (fun h => ?_)
  refine z34 ?_
  refine z0c ?_
  refine z0b hN rfl ?_
  refine qe rfl ?_
  refine z0q ?_
  cases H
  exact ⟨trivial,.inl rfl,trivial⟩
 ·rintro k2 x5 ⟨⟩ q3 h6 h7 H hq3
  replace H:z4a p1 k2 x5=some q3:=H
  unfold z4a at H
  refine z0c ?_
  refine z0b hN rfl ?_
  refine z0a (z1i rfl rfl) ?_
  refine z0c ?_
  refine z0i _ rfl (fun h => ?_) (fun h=>(lt_f h6 h).elim)
  refine z0l ?_
  refine z0c ?_
  refine z01 ?_
  refine z0c ?_
  refine z0b hN rfl ?_
  refine qd rfl ?_
  refine qe rfl ?_
  refine z0c ?_
  refine z0b hN rfl ?_
  refine qd rfl ?_
  refine qd rfl ?_
  refine qd rfl ?_
  refine z0a (z93 z7t (fun _=>rfl) rfl rfl h7) ?_
  refine z0a (z1b tyS9 rfl (z5q h7) rfl) ?_
  obtain ⟨r8,h9,H⟩:=bnd H
  refine z0a (y5w (hp1 x5 r8 h9) rfl ⟨.inl rfl,trivial⟩) ?_
  refine z0i _ rfl (fun h10 => ?_) (fun h10 => ?_)
  ·replace H:=ift h10 H
   refine z0c ?_
   refine z0b hN rfl ?_
   refine qd rfl ?_
   refine qe rfl ?_
   refine z0q ?_
   replace H:=retl H hq3
   cases H
   exact ⟨trivial,.inl rfl,trivial⟩
  ·replace H:=iff_ h10 H
   refine z0l ?_
   refine z0b hN rfl ?_
   refine z0a (z6q rfl rfl (by omega)) ?_
   refine qd rfl ?_
   exact ⟨_,z9j H,⟨rfl,rfl,rfl,rfl,trivial⟩,trivial⟩
theorem z33 (s1:(List Bs)) (p1:Bs→Option (Bool)) (fv1:Nat) (us1:List V) (hp1:∀ a0 r,p1 a0=some r→Fn Tryz.prog fv1 ([vstr a0]++us1) (z2f [z02 r])) (r:(Bool)) (H:z1a s1 p1=some r):Fn Tryz.prog 33 [vlst (List.map z0j s1),vfn fv1 us1] (z2f [z02 r]):=by
 refine ⟨by kernel_rfl,z2a (us:=[z02 r]) Tryz.func33 rfl rfl rfl rfl fun X hN => ?_⟩
 unfold z1a at H
 refine z0c ?_
 refine z0b hN rfl ?_
 refine qe rfl ?_
 refine z0c ?_
 refine z0b hN rfl ?_
 refine qd rfl ?_
 refine qd rfl ?_
 obtain ⟨r2,h3,H⟩:=bnd H
 refine z0a (z0s (z54 s1 p1 fv1 us1 hp1 r2 h3) ⟨.inl rfl,.inl rfl,trivial⟩) ?_
 refine z0a (z8e rfl rfl) ?_
 refine qe rfl ?_
 refine z0q ?_
 cases H
 exact ⟨trivial,.inl rfl,trivial⟩
theorem z9x (s p:Bs) (r:Bs×Bool) (H:z4g s p=some r):Fn Tryz.prog 88 [vstr s,vstr p] (z2f [vstr r.1,z02 r.2]):=by
 obtain ⟨h1,rfl⟩:=y34 H
 refine y00 (by kernel_rfl) fun M w vs h => ?_
 have hv:=z92 (us:=[.string ⟨s.toArray⟩,.string ⟨p.toArray⟩]) h
 subst hv
 refine (Tryz.strings_CutSuffix ⟨s.toArray⟩ ⟨p.toArray⟩ w (by simp [ByteArray.size]; omega)).mono ?_
 rintro e w' ⟨rfl,rfl⟩
 refine ⟨_,rfl,⟨[_,_],rfl,rfl,fun j u hj => ?_⟩,Kp.refl _ _⟩
 rcases j with _ | _ | j
 ·cases hj; exact ⟨_,rfl,rfl⟩
 ·cases hj; exact ⟨_,rfl,rfl⟩
 ·simp at hj
theorem z9w (s p:Bs) (r:Bool) (H:z50 s p=some r):Fn Tryz.prog 89 [vstr s,vstr p] (z2f [z02 r]):=by
 cases H
 refine y00 (by kernel_rfl) fun M w vs h => ?_
 have h1:=z92 (us:=[.string ⟨s.toArray⟩,.string ⟨p.toArray⟩]) h
 subst h1
 refine (Tryz.strings_HasPrefix ⟨s.toArray⟩ ⟨p.toArray⟩ w).mono ?_
 rintro e w' ⟨rfl,rfl⟩
 exact ⟨_,rfl,rfl,Kp.refl _ _⟩
theorem y3u (a1:Bs) (b2:Bs) (r:(Bool)) (H:z7l a1 b2=some r):Fn Tryz.prog 74 [vstr a1,vstr b2] (z2f [z02 r]):=by
 refine ⟨by kernel_rfl,z2a (us:=[z02 r]) Tryz.func74 rfl rfl rfl rfl fun X hN => ?_⟩
 unfold z7l at H
 refine z0c ?_
 refine z0b hN rfl ?_
 refine qe rfl ?_
 refine z0c ?_
 refine z0c ?_
 refine z0b hN rfl ?_
 refine qd rfl ?_
 obtain ⟨r3,h4,H⟩:=bnd H
 refine z0a (z0s (z9x a1 [42] r3 h4) ⟨.inl rfl,.inl rfl,trivial⟩) ?_
 refine qd rfl ?_
 refine z0a (z2d rfl rfl) ?_
 refine z0a (z2d rfl rfl) ?_
 refine qe rfl ?_
 refine qe rfl ?_
 refine z0c ?_
 refine z0b hN rfl ?_
 refine qd rfl ?_
 refine z0i _ rfl (fun h5 => ?_) (fun h5 => ?_)
 ·replace H:=ift h5 H
  refine z0c ?_
  refine z0b hN rfl ?_
  refine qd rfl ?_
  refine qd rfl ?_
  obtain ⟨r6,h7,H⟩:=bnd H
  refine z0a (z0s (z9w b2 r3.1 r6 h7) ⟨.inl rfl,.inl rfl,trivial⟩) ?_
  refine qe rfl ?_
  refine z0q ?_
  cases H
  exact ⟨trivial,.inl rfl,trivial⟩
 ·replace H:=iff_ h5 H
  refine z0l ?_
  refine z0c ?_
  refine z0b hN rfl ?_
  refine qd rfl ?_
  refine qd rfl ?_
  refine z0a (z56 rfl rfl) ?_
  refine qe rfl ?_
  refine z0q ?_
  cases H
  exact ⟨trivial,.inl rfl,trivial⟩
theorem y1g (o1:Bs) (c2:Bs) (r:(Bool)) (H:z5r o1 c2=some r):Fn Tryz.prog 73 [vstr o1,y2a [[vstr c2]] 0 0] (z2f [z02 r]):=by
 refine ⟨by kernel_rfl,z2a (us:=[z02 r]) Tryz.func73 rfl rfl rfl rfl fun X hN => ?_⟩
 unfold z5r at H
 refine z0c ?_
 refine z0b hN rfl ?_
 refine qe rfl ?_
 refine z0z (ι:=Bool) (fun i=>[(3,.dat (z02 i))]) (fun i=>[]) (fun i=>z4n i=some r) (fun i=>rfl) ?_ ?_
 ·skip
  refine z0b hN rfl ?_
  refine qd rfl ?_
  refine z0a (z1b tyS9 rfl rfl rfl) ?_
  refine z0a (z7d rfl rfl) ?_
  refine qd rfl ?_
  refine z04 (j:=3) rfl rfl (fun h3 => ?_) (fun h3 => ?_) rfl
  ·have h4:=un1 h3
   replace H:=ift h4 H
   refine z0m rfl rfl h3 (z0h (.dat _) rfl) ?_
   refine z0m rfl rfl h3 (z1b tyS9 rfl rfl rfl) ?_
   obtain ⟨r5,h6,H⟩:=bnd H
   refine z0m rfl rfl h3 (z0s (y3u o1 c2 r5 h6) ⟨.inl rfl,.inl rfl,trivial⟩) ?_
   refine z0a (z0t rfl (bTT h4) rfl) ?_
   refine qe rfl ?_
   exact ⟨r5,H,⟨rfl,trivial⟩,trivial⟩
  ·have h7:=un2 h3
   replace H:=iff_ h7 H
   refine z0e rfl rfl h3 ?_
   refine z0e rfl rfl h3 ?_
   refine z0e rfl rfl h3 ?_
   refine z0a (z0o rfl (bFF h7) rfl) ?_
   refine qe rfl ?_
   exact ⟨false,H,⟨rfl,trivial⟩,trivial⟩
 ·rintro v8 H
  replace H:z4n v8=some r:=H
  unfold z4n at H
  refine z0q ?_
  cases H
  exact ⟨trivial,.inl rfl,trivial⟩
theorem z96 (l1:(List Bs)) (r:((List Bs))) (H:z5i l1=some r):Fn Tryz.prog 44 [vlst (List.map z0j l1)] (z2f [vlst (List.map z0j r)]):=by
 refine ⟨by kernel_rfl,z2a (us:=[vlst (List.map z0j r)]) Tryz.func44 rfl rfl rfl rfl fun X hN => ?_⟩
 unfold z5i at H
 refine z0c ?_
 refine z0b hN rfl ?_
 refine qe rfl ?_
 refine z0c ?_
 refine z0b hN rfl ?_
 refine qe rfl ?_
 refine z0c ?_
 refine z0c ?_
 refine z0b hN rfl ?_
 refine qd rfl ?_
 refine z0a (z6g z6n rfl) ?_
 refine qd rfl ?_
 refine z01 ?_
 refine y0k 3 1 9 1 rfl rfl rfl ?_
 obtain ⟨h5,H⟩:=gif H
 refine z64 (fun (k3:Nat) (s:(List Bs))=>[(0,.dat (vlst (List.map z0j l1))),(3,.row 1 s.length),(6,.dat (vlst (List.map z0j l1))),(7,.dat (vint (l1.length:Int))),(8,.dat (vint (k3:Int)))]) (fun (k3:Nat) (s:(List Bs))=>[(1,.row 9 1 (List.map z0j s))]) [] H ⟨rfl,rfl,rfl,rfl,rfl,trivial⟩ ⟨rfl,trivial⟩ (fun _ _=>rfl) ?_ ?_
 ·rintro l2 H
  replace H:z63 l2=some r:=H
  unfold z63 at H
  refine z0c ?_
  refine z0b hN rfl ?_
  refine z0a (z1i rfl rfl) ?_
  refine z0c ?_
  refine z0i _ rfl (fun h=>(lt_t h).elim) (fun h => ?_)
  refine z34 ?_
  refine z0c ?_
  refine z0b hN rfl ?_
  refine z0a (z0h (.row _ _) rfl) ?_
  obtain ⟨r7,h8,H⟩:=bnd H
  refine z8t (rn [(0,1)]) [(0,_,_,some _)] [] (z6u l2 r7 h8) ⟨rfl,trivial⟩ ⟨.inl (.inl rfl),trivial⟩ ⟨⟨⟨rfl,rfl,rfl⟩,by simp [y87,y04 h8]⟩,trivial⟩ rfl ?_
  refine z0c ?_
  refine z0b hN rfl ?_
  refine z0a (z0h (.row _ _) rfl) ?_
  obtain ⟨r9,h10,H⟩:=bnd H
  refine z8t (rn [(0,1),(900,2)]) [(0,_,_,none)] [(900,_)] (z6a r7 r9 h10) ⟨rfl,rfl,trivial⟩ ⟨.inl (.inl (congrArg (Slot.row 1) (y04 h8).symm)),trivial⟩ ⟨⟨⟨rfl,rfl,rfl⟩,trivial⟩,trivial⟩ rfl ?_
  refine z0a (z2i (.row _ _) rfl) ?_
  refine z0q ?_
  cases H
  exact ⟨trivial,y40 rfl rfl,trivial⟩
 ·rintro k3 x6 l2 q4 h11 h12 H hq4
  replace H:z62 l1 k3 x6 l2=some q4:=H
  unfold z62 at H
  refine z0c ?_
  refine z0b hN rfl ?_
  refine z0a (z1i rfl rfl) ?_
  refine z0c ?_
  refine z0i _ rfl (fun h => ?_) (fun h=>(lt_f h11 h).elim)
  refine z0l ?_
  refine z0z (ι:=(List Bs)) (fun i=>[(0,.dat (vlst (List.map z0j l1))),(3,.row 1 i.length),(6,.dat (vlst (List.map z0j l1))),(7,.dat (vint (l1.length:Int))),(8,.dat (vint (k3:Int)))]) (fun i=>[(1,.row 9 1 (List.map z0j i))]) (fun i=>z48 i=some q4) (fun i=>rfl) ?_ ?_
  ·skip
   refine z01 ?_
   refine z0c ?_
   refine z0b hN rfl ?_
   refine z0a (z93 z7t (fun _=>rfl) rfl rfl h12) ?_
   refine z0a (z1b tyS9 rfl (z5q h12) rfl) ?_
   refine z0k (z65 3 tyZ9 rfl) rfl ?_
   refine z0k (z1g tyS9 rfl rfl rfl rfl) rfl ?_
   refine z0c ?_
   refine y5m 3 [vstr x6] rfl rfl ?_
   refine z0b hN rfl ?_
   refine qd rfl ?_
   refine z0a (y42 (us:=[_]) ⟨rfl,trivial⟩) ?_
   obtain ⟨r13,h14,H⟩:=bnd H
   refine z0a (z0s (z33 l1 (fun (a0:Bs)=>z5r a0 x6) 73 [y2a [[vstr x6]] 0 0] (fun a0 r h=>y1g a0 x6 r h) r13 h14) ⟨.inl rfl,.inl rfl,trivial⟩) ?_
   refine z0a (z4x rfl) ?_
   refine z0i _ rfl (fun h15 => ?_) (fun h15 => ?_)
   ·replace H:=ift h15 H
    refine z0b hN rfl ?_
    refine z0a (z0h (.row _ _) rfl) ?_
    refine z0a (z1b tyS9 rfl rfl rfl) ?_
    refine z0a (z1e (u':=vlst (List.map z0j [x6])) (z3t [[_]] z6o ⟨rfl,.inl ⟨_,rfl,rfl,rfl⟩,rfl,trivial⟩ rfl rfl) rfl) ?_
    obtain ⟨h16,H⟩:=gif H
    refine z0k (y41 z6o (fun _=>rfl) rfl rfl rfl ⟨by simp,by first | (simp; done) | simpa using h16⟩ rfl) rfl ?_
    refine z0a (z2i (.row _ _) rfl) ?_
    exact ⟨(l2++[x6]),H,⟨rfl,rfl,rfl,rfl,rfl,trivial⟩,⟨rfl,trivial⟩⟩
   ·replace H:=iff_ h15 H
    refine z0l ?_
    exact ⟨l2,H,⟨rfl,rfl,rfl,rfl,rfl,trivial⟩,⟨rfl,trivial⟩⟩
  ·rintro out17 H
   replace H:z48 out17=some q4:=H
   unfold z48 at H
   refine z0b hN rfl ?_
   refine z0a (z6q rfl rfl (by omega)) ?_
   refine qd rfl ?_
   exact ⟨_,z9j H,⟨rfl,rfl,rfl,rfl,rfl,trivial⟩,⟨rfl,trivial⟩⟩
theorem z57 (s1:z0d) (l2:(List Int)) (r:(Int×z0d)) (H:z2n s1 l2=some r):Imp Tryz.prog 21 25 (z0p s1) [vlst (List.map y1t l2)] (z2f [vint r.1]) (z0p r.2):=by
 refine z81 (us:=[vint r.1]) (cs':=(z0p r.2)) (by kernel_rfl) Tryz.func21 rfl rfl rfl rfl fun X bl hN => ?_
 unfold z2n at H
 refine z0c ?_
 refine z0b hN rfl ?_
 refine qe rfl ?_
 refine z0c ?_
 refine z0b hN rfl ?_
 refine qd rfl ?_
 refine z0a (z0h (.ptr _ _) rfl) ?_
 refine qd rfl ?_
 refine z0a (z6g x2i rfl) ?_
 obtain ⟨r3,h4,H⟩:=bnd H
 refine z0k (z1k (z1t s1 (l2.length:Int) r3 h4) rfl ⟨.inl rfl,trivial⟩ rfl) rfl ?_
 obtain ⟨x5,h6,H⟩:=bnd H
 refine z0a (y1w x6p (fun _=>rfl) rfl rfl h6) ?_
 refine z0a (z1b tyS3 rfl (z5q (z8l h6).2) rfl) ?_
 refine qe rfl ?_
 refine z0q ?_
 cases H
 exact ⟨trivial,⟨.inl rfl,trivial⟩,rfl⟩
theorem z68 (s1:z0d) (r:(z0f×z0d)) (H:z1n s1=some r):Imp Tryz.prog 15 25 (z0p s1) [] (z2f [vagg (z0w r.1)]) (z0p r.2):=by
 refine z81 (us:=[vagg (z0w r.1)]) (cs':=(z0p r.2)) (by kernel_rfl) Tryz.func15 rfl rfl rfl rfl fun X bl hN => ?_
 unfold z1n at H
 refine z0c ?_
 refine z0b hN rfl ?_
 refine z0k (z65 1 y0l rfl) rfl ?_
 refine z0c ?_
 refine z5v mixed hN rfl rfl ?_
 refine z0a (z0h (.ptr _ _) rfl) ?_
 refine z0a (z1e (u':=vlst (List.map z0j [[116,49],[116,49],[116,50],[116,51]])) (z3t [[_],[_],[_],[_]] z6o ⟨rfl,.inl ⟨_,rfl,rfl,rfl⟩,rfl,rfl,.inl ⟨_,rfl,rfl,rfl⟩,rfl,rfl,.inl ⟨_,rfl,rfl,rfl⟩,rfl,rfl,.inl ⟨_,rfl,rfl,rfl⟩,rfl,trivial⟩ rfl rfl) rfl) ?_
 obtain ⟨r2,h3,H⟩:=bnd H
 refine z0k (z1k (z09 s1 ([[116,49],[116,49],[116,50],[116,51]]) r2 h3) rfl ⟨.inl rfl,trivial⟩ rfl) rfl ?_
 refine z0a (z0h (.ptr _ _) rfl) ?_
 refine z0a (z1e (u':=vlst (List.map z0j [[97,110,110],[98,111,98]])) (z3t [[_],[_]] z6o ⟨rfl,.inl ⟨_,rfl,rfl,rfl⟩,rfl,rfl,.inl ⟨_,rfl,rfl,rfl⟩,rfl,trivial⟩ rfl rfl) rfl) ?_
 obtain ⟨r4,h5,H⟩:=bnd H
 refine z0k (z1k (z09 r2.2 ([[97,110,110],[98,111,98]]) r4 h5) rfl ⟨.inl rfl,trivial⟩ rfl) rfl ?_
 refine z0a (z0h (.ptr _ _) rfl) ?_
 refine z0a (z1e (u':=vlst (List.map z0j [[103,97,116,101],[103,97,116,101],[103,97,116,101],[111,116,104,101,114]])) (z3t [[_],[_],[_],[_]] z6o ⟨rfl,.inl ⟨_,rfl,rfl,rfl⟩,rfl,rfl,.inl ⟨_,rfl,rfl,rfl⟩,rfl,rfl,.inl ⟨_,rfl,rfl,rfl⟩,rfl,rfl,.inl ⟨_,rfl,rfl,rfl⟩,rfl,trivial⟩ rfl rfl) rfl) ?_
 obtain ⟨r6,h7,H⟩:=bnd H
 refine z0k (z1k (z09 r4.2 ([[103,97,116,101],[103,97,116,101],[103,97,116,101],[111,116,104,101,114]]) r6 h7) rfl ⟨.inl rfl,trivial⟩ rfl) rfl ?_
 refine z0a (z0h (.ptr _ _) rfl) ?_
 refine z0a (z1e (u':=vlst (List.map z0j [[],[],[],[116,48],[116,50]])) (z3t [[_],[_],[_],[_],[_]] z6o ⟨rfl,.inl ⟨_,rfl,rfl,rfl⟩,rfl,rfl,.inl ⟨_,rfl,rfl,rfl⟩,rfl,rfl,.inl ⟨_,rfl,rfl,rfl⟩,rfl,rfl,.inl ⟨_,rfl,rfl,rfl⟩,rfl,rfl,.inl ⟨_,rfl,rfl,rfl⟩,rfl,trivial⟩ rfl rfl) rfl) ?_
 obtain ⟨r8,h9,H⟩:=bnd H
 refine z0k (z1k (z09 r6.2 ([[],[],[],[116,48],[116,50]]) r8 h9) rfl ⟨.inl rfl,trivial⟩ rfl) rfl ?_
 refine z0a (z1e (u':=vlst (List.map z0j [[115,104,111,112]])) (z3t [[_]] z6o ⟨rfl,.inl ⟨_,rfl,rfl,rfl⟩,rfl,trivial⟩ rfl rfl) rfl) ?_
 refine z0a (z1e (u':=vlst (List.map z0j [[109,97,112,115],[115,104,111,112]])) (z3t [[_],[_]] z6o ⟨rfl,.inl ⟨_,rfl,rfl,rfl⟩,rfl,rfl,.inl ⟨_,rfl,rfl,rfl⟩,rfl,trivial⟩ rfl rfl) rfl) ?_
 refine z0a (z1e (u':=vlst (List.map z0j [[109,97,112,115]])) (z3t [[_]] z6o ⟨rfl,.inl ⟨_,rfl,rfl,rfl⟩,rfl,trivial⟩ rfl rfl) rfl) ?_
 refine z0a (y1i (u':=vlst (List.map y4u ([[],[],[[115,104,111,112]],[[109,97,112,115],[115,104,111,112]],[[109,97,112,115]]]:(List (List Bs))))) (x6i (by exact ⟨⟨z7g,trivial⟩,⟨z7g,trivial⟩,⟨z2v,trivial⟩,⟨z2v,trivial⟩,⟨z2v,trivial⟩,trivial⟩)) (z3t [[vnil],[vnil],[_],[_],[_]] x6l ⟨rfl,.inl ⟨_,rfl,rfl,rfl⟩,rfl,rfl,.inl ⟨_,rfl,rfl,rfl⟩,rfl,rfl,.inl ⟨_,rfl,rfl,rfl⟩,rfl,rfl,.inl ⟨_,rfl,rfl,rfl⟩,rfl,rfl,.inl ⟨_,rfl,rfl,rfl⟩,rfl,trivial⟩ rfl rfl)) ?_
 refine z0a (z0h (.ptr _ _) rfl) ?_
 obtain ⟨r10,h11,H⟩:=bnd H
 refine z0k (z1k (z1t r8.2 5 r10 h11) rfl ⟨.inl rfl,trivial⟩ rfl) rfl ?_
 obtain ⟨x12,h13,H⟩:=bnd H
 refine z0a (y1w x6n (fun _=>rfl) rfl rfl h13) ?_
 refine z0a (z1b z6w rfl (z5q (z8l h13).2) rfl) ?_
 refine z0a (z0h (.ptr _ _) rfl) ?_
 obtain ⟨r14,h15,H⟩:=bnd H
 refine z0k (z1k (z88 r10.2 r14 h15) rfl trivial rfl) rfl ?_
 obtain ⟨r16,h17,H⟩:=bnd H
 refine z0a (z0s (z96 r14.1 r16 h17) ⟨.inl rfl,trivial⟩) ?_
 refine z0a (z0h (.ptr _ _) rfl) ?_
 refine z0a (z1e (u':=vlst (List.map y1t [0,50,100])) (z3t [[_],[_],[_]] x2l ⟨rfl,.inl ⟨_,rfl,rfl,rfl⟩,rfl,rfl,.inl ⟨_,rfl,rfl,rfl⟩,rfl,rfl,.inl ⟨_,rfl,rfl,rfl⟩,rfl,trivial⟩ rfl rfl) rfl) ?_
 obtain ⟨r18,h19,H⟩:=bnd H
 refine z0k (z1k (z57 r14.2 [0,50,100] r18 h19) rfl ⟨.inl rfl,trivial⟩ rfl) rfl ?_
 refine z0a (z1e (u':=vagg (z0w (z0f.mk r2.1 r4.1 r6.1 r8.1 x12 r16 r18.1 0))) (z7x [(0,[vstr r2.1]),(1,[vstr r4.1]),(2,[vstr r6.1]),(3,[vstr r8.1]),(4,[vlst (List.map z0j x12)]),(5,[vlst (List.map z0j r16)]),(6,[vint r18.1])] y0l y5s rfl ⟨rfl,.inl ⟨_,rfl,rfl,rfl⟩,rfl,rfl,.inl ⟨_,rfl,rfl,rfl⟩,rfl,rfl,.inl ⟨_,rfl,rfl,rfl⟩,rfl,rfl,.inl ⟨_,rfl,rfl,rfl⟩,rfl,rfl,.inl ⟨_,rfl,rfl,rfl⟩,rfl,rfl,.inl ⟨_,rfl,rfl,rfl⟩,rfl,rfl,.inl ⟨_,rfl,rfl,rfl⟩,rfl,trivial⟩) rfl) ?_
 refine z0k (z65 2 y0l rfl) rfl ?_
 refine z0k (z4h z6c rfl rfl rfl rfl) rfl ?_
 refine ⟨rfl,?_⟩
 refine z0c ?_
 refine z5v mixed hN rfl rfl ?_
 refine z0a (z0n z85 rfl) ?_
 refine z0u (z0r tyS3 rfl rfl) rfl ?_
 refine z0a (z0h (.ptr _ _) rfl) ?_
 refine z0a (z1e (u':=vlst (List.map y1t [1,50,100,200])) (z3t [[_],[_],[_],[_]] x2l ⟨rfl,.inl ⟨_,rfl,rfl,rfl⟩,rfl,rfl,.inl ⟨_,rfl,rfl,rfl⟩,rfl,rfl,.inl ⟨_,rfl,rfl,rfl⟩,rfl,rfl,.inl ⟨_,rfl,rfl,rfl⟩,rfl,trivial⟩ rfl rfl) rfl) ?_
 obtain ⟨r20,h21,H⟩:=bnd H
 refine z0k (z1k (z57 r18.2 [1,50,100,200] r20 h21) rfl ⟨.inl rfl,trivial⟩ rfl) rfl ?_
 refine z0a (z1l _ rfl rfl (.inl ⟨rfl,rfl⟩)) ?_
 refine z0a (z0n z84 rfl) ?_
 refine z0k (z1g tyS3 rfl rfl rfl rfl) rfl ?_
 refine ⟨rfl,?_⟩
 refine z0c ?_
 refine z0b hN rfl ?_
 refine z0u (z5p z6c rfl rfl rfl) rfl ?_
 refine z0k (z4h z6c rfl rfl rfl rfl) rfl ?_
 refine z0q ?_
 cases H
 exact ⟨trivial,⟨.inl ⟨_,_,_,z0w (z0f.mk r2.1 r4.1 r6.1 r8.1 x12 r16 r18.1 (wr (r18.1+r20.1))),rfl,rfl,rfl,rfl,z6c⟩,trivial⟩,rfl⟩
theorem z3n (s1:z0d) (n2:Int) (r:(Bool×z0d)) (H:z1o s1 n2=some r):Imp Tryz.prog 6 25 (z0p s1) [vint n2] (z2f [z02 r.1]) (z0p r.2):=by
 refine z81 (us:=[z02 r.1]) (cs':=(z0p r.2)) (by kernel_rfl) Tryz.func6 rfl rfl rfl rfl fun X bl hN => ?_
 unfold z1o at H
 refine z0c ?_
 refine z0b hN rfl ?_
 refine qe rfl ?_
 refine z0c ?_
 refine z0b hN rfl ?_
 refine z0a (z0h (.ptr _ _) rfl) ?_
 refine qd rfl ?_
 obtain ⟨r3,h4,H⟩:=bnd H
 refine z0k (z1k (z1t s1 n2 r3 h4) rfl ⟨.inl rfl,trivial⟩ rfl) rfl ?_
 refine z0a (z10 rfl rfl) ?_
 refine qe rfl ?_
 refine z0q ?_
 cases H
 exact ⟨trivial,⟨.inl rfl,trivial⟩,rfl⟩
theorem y2x (s:Bs) (n:Int) (r:Bs) (H:z66 s n=some r):Fn Tryz.prog 77 [vstr s,vint n] (z2f [vstr r]):=by
 obtain ⟨h0,h1,h2,rfl⟩:=y66 H
 obtain ⟨c,rfl⟩:=Int.eq_ofNat_of_zero_le h0
 refine y00 (by kernel_rfl) fun M w vs h => ?_
 have hv:=z92 (us:=[.string ⟨s.toArray⟩,.int .i64 c]) h
 subst hv
 have hs:(ByteArray.mk s.toArray).size=s.length:=by simp [ByteArray.size]
 refine (Tryz.strings_Repeat ⟨s.toArray⟩ c w (by omega) (by rw [hs]; exact Nat.le_trans (Nat.mul_le_mul h2 (show c≤1000000 by omega)) (by decide))).mono ?_
 rintro e w' ⟨rfl,hb⟩
 exact ⟨_,rfl,by simp [z2f,vstr,vval],Kp.of_below hb⟩
theorem y0y (s1:z0d) (r:(Bs×z0d)) (H:z4s s1=some r):Imp Tryz.prog 48 25 (z0p s1) [] (z2f [vstr r.1]) (z0p r.2):=by
 refine z81 (us:=[vstr r.1]) (cs':=(z0p r.2)) (by kernel_rfl) Tryz.func48 rfl rfl rfl rfl fun X bl hN => ?_
 unfold z4s at H
 refine z0c ?_
 refine z0b hN rfl ?_
 refine qe rfl ?_
 refine z0c ?_
 refine z0c ?_
 refine z0b hN rfl ?_
 refine z0a (z0h (.ptr _ _) rfl) ?_
 obtain ⟨r2,h3,H⟩:=bnd H
 refine z0k (z1k (z3n s1 25 r2 h3) rfl ⟨.inl rfl,trivial⟩ rfl) rfl ?_
 refine z0i _ rfl (fun h4 => ?_) (fun h4 => ?_)
 ·replace H:=ift h4 H
  refine z0c ?_
  refine z0b hN rfl ?_
  refine z0a (z0h (.ptr _ _) rfl) ?_
  obtain ⟨r5,h6,H⟩:=bnd H
  refine z0a (z0s (y2x [97,58] 10 r5 h6) ⟨.inl rfl,.inl rfl,trivial⟩) ?_
  obtain ⟨h7,H⟩:=gif H
  refine z0a (z18 rfl rfl (Nat.le_trans h7 (by decide))) ?_
  refine z0a (z1e (u':=vlst (List.map z0j [[],[97,58,42,58,98],[65],[97,58,58,98],[97,58],[42,42],[97,42],(r5++[97])])) (z3t [[_],[_],[_],[_],[_],[_],[_],[_]] z6o ⟨rfl,.inl ⟨_,rfl,rfl,rfl⟩,rfl,rfl,.inl ⟨_,rfl,rfl,rfl⟩,rfl,rfl,.inl ⟨_,rfl,rfl,rfl⟩,rfl,rfl,.inl ⟨_,rfl,rfl,rfl⟩,rfl,rfl,.inl ⟨_,rfl,rfl,rfl⟩,rfl,rfl,.inl ⟨_,rfl,rfl,rfl⟩,rfl,rfl,.inl ⟨_,rfl,rfl,rfl⟩,rfl,rfl,.inl ⟨_,rfl,rfl,rfl⟩,rfl,trivial⟩ rfl rfl) rfl) ?_
  obtain ⟨r8,h9,H⟩:=bnd H
  refine z0k (z1k (z09 r2.2 ([[],[97,58,42,58,98],[65],[97,58,58,98],[97,58],[42,42],[97,42],(r5++[97])]) r8 h9) rfl ⟨.inl rfl,trivial⟩ rfl) rfl ?_
  refine qe rfl ?_
  refine z0q ?_
  cases H
  exact ⟨trivial,⟨.inl rfl,trivial⟩,rfl⟩
 ·replace H:=iff_ h4 H
  refine z0l ?_
  refine z0c ?_
  refine z0b hN rfl ?_
  refine z0a (z0h (.ptr _ _) rfl) ?_
  refine z0a (z1e (u':=vlst (List.map z0j [[42],[97],[97,58,42],[97,58,98],[97,58,98,58,42],[97,58,98,58,99],[98],[98,58,42],[98,58,99],[99]])) (z3t [[_],[_],[_],[_],[_],[_],[_],[_],[_],[_]] z6o ⟨rfl,.inl ⟨_,rfl,rfl,rfl⟩,rfl,rfl,.inl ⟨_,rfl,rfl,rfl⟩,rfl,rfl,.inl ⟨_,rfl,rfl,rfl⟩,rfl,rfl,.inl ⟨_,rfl,rfl,rfl⟩,rfl,rfl,.inl ⟨_,rfl,rfl,rfl⟩,rfl,rfl,.inl ⟨_,rfl,rfl,rfl⟩,rfl,rfl,.inl ⟨_,rfl,rfl,rfl⟩,rfl,rfl,.inl ⟨_,rfl,rfl,rfl⟩,rfl,rfl,.inl ⟨_,rfl,rfl,rfl⟩,rfl,rfl,.inl ⟨_,rfl,rfl,rfl⟩,rfl,trivial⟩ rfl rfl) rfl) ?_
  obtain ⟨r10,h11,H⟩:=bnd H
  refine z0k (z1k (z09 r2.2 ([[42],[97],[97,58,42],[97,58,98],[97,58,98,58,42],[97,58,98,58,99],[98],[98,58,42],[98,58,99],[99]]) r10 h11) rfl ⟨.inl rfl,trivial⟩ rfl) rfl ?_
  refine qe rfl ?_
  refine z0q ?_
  cases H
  exact ⟨trivial,⟨.inl rfl,trivial⟩,rfl⟩
theorem z8y (s1:z0d) (r:((List Bs)×z0d)) (H:z1m s1=some r):FnG Tryz.prog 46 [.ptr 0 0] [(0,.box (some 0) 25 (List.map .dat (z0p s1)))] (.row 1 r.1.length) [(0,.box (some 0) 25 (List.map .dat (z0p r.2))),(1,.row 9 1 (List.map z0j r.1))]:=by
 refine x1f (by kernel_rfl) Tryz.func46 rfl rfl rfl rfl fun X A hN => ?_
 unfold z1m at H
 refine z0c ?_
 refine z0b hN rfl ?_
 refine qe rfl ?_
 refine z0c ?_
 refine z0b hN rfl ?_
 refine qe rfl ?_
 refine z0c ?_
 refine z0c ?_
 refine z0b hN rfl ?_
 refine z0a (z0h (.ptr _ _) rfl) ?_
 obtain ⟨r2,h3,H⟩:=bnd H
 refine z0k (z1k (z60 s1 0 4 r2 h3) rfl ⟨.inl rfl,.inl rfl,trivial⟩ rfl) rfl ?_
 refine qd rfl ?_
 refine z01 ?_
 refine y0k 3 1 9 1 rfl rfl rfl ?_
 obtain ⟨h9,H⟩:=gif H
 refine y30 (fun (k7:Nat) (s:(List Int)×Int×(List Bs))=>[(0,.ptr 0 0),(3,.row 1 s.2.2.length),(5,.dat (vint r2.1)),(6,.dat (vint (k7:Int)))]) (fun (k7:Nat) (s:(List Int)×Int×(List Bs))=>[(0,.box (some (A.bl 0)) 25 [.dat (vlst (List.map y1t s.1)),.dat (vint s.2.1)]),(1,.row 9 1 (List.map z0j s.2.2))]) (r2.2.L,r2.2.at_,[]) H ⟨rfl,rfl,rfl,rfl,trivial⟩ ⟨rfl,rfl,trivial⟩ (fun _ _=>rfl) ?_ ?_
 ·rintro ⟨c4,c5,l6⟩ H
  replace H:z22 c4 c5 l6=some r:=H
  unfold z22 at H
  refine z0c ?_
  refine z0b hN rfl ?_
  refine z0a (z1i rfl rfl) ?_
  refine z0c ?_
  refine z0i _ rfl (fun h=>(x3w h).elim) (fun h => ?_)
  refine z34 ?_
  refine z0c ?_
  refine z0b hN rfl ?_
  refine z0a (z0h (.row _ _) rfl) ?_
  refine z0a (z2i (.row _ _) rfl) ?_
  refine z0q ?_
  cases H
  exact ⟨trivial,[(2,.row 1 _)],⟨rfl,trivial⟩,⟨rfl,rfl,trivial⟩,rfl,.inr (.inl ⟨2,rfl,rfl⟩)⟩
 ·rintro k7 ⟨c4,c5,l6⟩ q8 h10 H hq8
  replace H:z13 k7 c4 c5 l6=some q8:=H
  unfold z13 at H
  refine z0c ?_
  refine z0b hN rfl ?_
  refine z0a (z1i rfl rfl) ?_
  refine z0c ?_
  refine z0i _ rfl (fun h => ?_) (fun h=>(x3x h10 h).elim)
  refine z0l ?_
  refine z0c ?_
  refine z01 ?_
  refine z0b hN rfl ?_
  refine z0a (z0h (.row _ _) rfl) ?_
  refine z0a (z0h (.ptr _ _) rfl) ?_
  refine z0a (z1e (u':=vlst (List.map z0j [[97],[97,58,42],[97,58,98],[97,58,98,58,42],[97,58,98,58,99],[98],[98,58,42],[98,58,99],[42]])) (z3t [[_],[_],[_],[_],[_],[_],[_],[_],[_]] z6o ⟨rfl,.inl ⟨_,rfl,rfl,rfl⟩,rfl,rfl,.inl ⟨_,rfl,rfl,rfl⟩,rfl,rfl,.inl ⟨_,rfl,rfl,rfl⟩,rfl,rfl,.inl ⟨_,rfl,rfl,rfl⟩,rfl,rfl,.inl ⟨_,rfl,rfl,rfl⟩,rfl,rfl,.inl ⟨_,rfl,rfl,rfl⟩,rfl,rfl,.inl ⟨_,rfl,rfl,rfl⟩,rfl,rfl,.inl ⟨_,rfl,rfl,rfl⟩,rfl,rfl,.inl ⟨_,rfl,rfl,rfl⟩,rfl,trivial⟩ rfl rfl) rfl) ?_
  obtain ⟨r11,h12,H⟩:=bnd H
  refine z0k (z1k (z09 (z0d.mk c4 c5) ([[97],[97,58,42],[97,58,98],[97,58,98,58,42],[97,58,98,58,99],[98],[98,58,42],[98,58,99],[42]]) r11 h12) rfl ⟨.inl rfl,trivial⟩ rfl) rfl ?_
  refine z0a (z1e (u':=vlst (List.map z0j [r11.1])) (z3t [[_]] z6o ⟨rfl,.inl ⟨_,rfl,rfl,rfl⟩,rfl,trivial⟩ rfl rfl) rfl) ?_
  obtain ⟨h13,H⟩:=gif H
  refine z0k (y41 z6o (fun _=>rfl) rfl rfl rfl ⟨by simp,by first | (simp; done) | simpa using h13⟩ rfl) rfl ?_
  refine z0a (z2i (.row _ _) rfl) ?_
  refine z0b hN rfl ?_
  refine z0a (z6q rfl rfl (by omega)) ?_
  refine qd rfl ?_
  exact ⟨_,z9j H,⟨rfl,rfl,rfl,rfl,trivial⟩,⟨rfl,rfl,trivial⟩⟩
theorem y0h (s1:z0d) (r:((List Bs)×z0d)) (H:z4k s1=some r):Imp Tryz.prog 18 25 (z0p s1) [] (z2f [vlst (List.map z0j r.1)]) (z0p r.2):=by
 refine z81 (us:=[vlst (List.map z0j r.1)]) (cs':=(z0p r.2)) (by kernel_rfl) Tryz.func18 rfl rfl rfl rfl fun X bl hN => ?_
 unfold z4k at H
 refine z0c ?_
 refine z0b hN rfl ?_
 refine qe rfl ?_
 refine z0c ?_
 refine z0b hN rfl ?_
 refine z0a (z0h (.ptr _ _) rfl) ?_
 obtain ⟨r2,h3,H⟩:=bnd H
 refine z8t (rn [(0,0),(1,1)]) [(0,_,_,some _)] [(1,_)] (z8y s1 r2 h3) ⟨rfl,rfl,trivial⟩ ⟨.inl (.inl rfl),trivial⟩ ⟨⟨⟨rfl,rfl⟩,trivial⟩,trivial⟩ rfl ?_
 refine z0a (z2i (.row _ _) rfl) ?_
 refine z0z (ι:=(List Bs)×(List Int)×Int) (fun i=>[(0,.ptr 0 0),(3,.row 1 i.1.length)]) (fun i=>[(0,.box (some bl) 25 [.dat (vlst (List.map y1t i.2.1)),.dat (vint i.2.2)]),(1,.row 9 1 (List.map z0j i.1))]) (fun i=>z2g i.1 i.2.1 i.2.2=some r) (fun i=>rfl) ?_ ?_
 ·skip
  refine z0c ?_
  refine z0b hN rfl ?_
  refine z0a (z0h (.ptr _ _) rfl) ?_
  obtain ⟨r4,h5,H⟩:=bnd H
  refine z0k (z1k (z3n r2.2 6 r4 h5) rfl ⟨.inl rfl,trivial⟩ rfl) rfl ?_
  refine z0i _ rfl (fun h6 => ?_) (fun h6 => ?_)
  ·replace H:=ift h6 H
   refine z0b hN rfl ?_
   refine z0a (z0h (.row _ _) rfl) ?_
   refine z0a (z0h (.ptr _ _) rfl) ?_
   obtain ⟨r7,h8,H⟩:=bnd H
   refine z0k (z1k (y0y r4.2 r7 h8) rfl trivial rfl) rfl ?_
   refine z0a (z1e (u':=vlst (List.map z0j [r7.1])) (z3t [[_]] z6o ⟨rfl,.inl ⟨_,rfl,rfl,rfl⟩,rfl,trivial⟩ rfl rfl) rfl) ?_
   obtain ⟨h9,H⟩:=gif H
   refine z0k (y41 z6o (fun _=>rfl) rfl rfl rfl ⟨by simp,by first | (simp; done) | simpa using h9⟩ rfl) rfl ?_
   refine z0a (z2i (.row _ _) rfl) ?_
   exact ⟨((r2.1++[r7.1]),r7.2.L,r7.2.at_),H,⟨rfl,rfl,trivial⟩,⟨rfl,rfl,trivial⟩⟩
  ·replace H:=iff_ h6 H
   refine z0l ?_
   exact ⟨(r2.1,r4.2.L,r4.2.at_),H,⟨rfl,rfl,trivial⟩,⟨rfl,rfl,trivial⟩⟩
 ·rintro ⟨out10,c11,c12⟩ H
  replace H:z2g out10 c11 c12=some r:=H
  unfold z2g at H
  refine x1z (ι:=(List Bs)×(List Int)×Int) (fun i=>[(3,.dat (vlst (List.map z0j i.1)))]) (fun i=>[(0,.box (some bl) 25 [.dat (vlst (List.map y1t i.2.1)),.dat (vint i.2.2)])]) (fun i=>z3l i.1 i.2.1 i.2.2=some r) (fun i=>rfl) (fun i=>rfl) ?_ ?_
  ·skip
   refine z0c ?_
   refine z0b hN rfl ?_
   refine z0a (z0h (.ptr _ _) rfl) ?_
   obtain ⟨r13,h14,H⟩:=bnd H
   refine z0k (z1k (z3n (z0d.mk c11 c12) 60 r13 h14) rfl ⟨.inl rfl,trivial⟩ rfl) rfl ?_
   refine z0i _ rfl (fun h15 => ?_) (fun h15 => ?_)
   ·replace H:=ift h15 H
    refine z0b hN rfl ?_
    obtain ⟨h16,H⟩:=gif H
    refine z0k (x6v (C:=z0j) 2 [] z6o tyZ9 rfl rfl rfl rfl h16 rfl) rfl ?_
    refine z0a (z2i (.row _ _) rfl) ?_
    exact ⟨[(3,2)],_,_,_,_,rfl,rfl,by simp,⟨((List.replicate 51 []),r13.2.L,r13.2.at_),H,⟨.inl rfl,trivial⟩,⟨rfl,trivial⟩⟩⟩
   ·replace H:=iff_ h15 H
    refine z0l ?_
    exact ⟨[(3,1)],_,_,_,_,rfl,rfl,by simp,⟨(out10,r13.2.L,r13.2.at_),H,⟨.inl rfl,trivial⟩,⟨rfl,trivial⟩⟩⟩
  ·rintro ⟨out17,c18,c19⟩ H
   replace H:z3l out17 c18 c19=some r:=H
   unfold z3l at H
   refine z0c ?_
   refine z0b hN rfl ?_
   refine qd rfl ?_
   refine qe rfl ?_
   refine z0q ?_
   cases H
   exact ⟨trivial,⟨.inl rfl,trivial⟩,rfl⟩
theorem z8z (s1:z0d) (low2:Int) (high3:Int) (r:(Int×z0d)) (H:z4l s1 low2 high3=some r):Imp Tryz.prog 19 25 (z0p s1) [vint low2,vint high3] (z2f [vint r.1]) (z0p r.2):=by
 refine z81 (us:=[vint r.1]) (cs':=(z0p r.2)) (by kernel_rfl) Tryz.func19 rfl rfl rfl rfl fun X bl hN => ?_
 unfold z4l at H
 refine z0c ?_
 refine z0b hN rfl ?_
 refine qe rfl ?_
 refine z0c ?_
 refine z0c ?_
 refine z0b hN rfl ?_
 refine z0a (z0h (.ptr _ _) rfl) ?_
 obtain ⟨r4,h5,H⟩:=bnd H
 refine z0k (z1k (z3n s1 12 r4 h5) rfl ⟨.inl rfl,trivial⟩ rfl) rfl ?_
 refine z0i _ rfl (fun h6 => ?_) (fun h6 => ?_)
 ·replace H:=ift h6 H
  refine z0c ?_
  refine z0b hN rfl ?_
  refine z0a (z0h (.ptr _ _) rfl) ?_
  refine qd rfl ?_
  refine z0a (z1l _ rfl rfl (.inr (.inl ⟨rfl,rfl⟩))) ?_
  refine qd rfl ?_
  refine z0a (z1l _ rfl rfl (.inl ⟨rfl,rfl⟩)) ?_
  refine qd rfl ?_
  refine qd rfl ?_
  refine z0a (z1e (u':=vlst (List.map y1t [wr (low2 - 1),wr (high3+1),low2,high3,(-1099511627776),1099511627776])) (z3t [[_],[_],[_],[_],[_],[_]] x2l ⟨rfl,.inl ⟨_,rfl,rfl,rfl⟩,rfl,rfl,.inl ⟨_,rfl,rfl,rfl⟩,rfl,rfl,.inl ⟨_,rfl,rfl,rfl⟩,rfl,rfl,.inl ⟨_,rfl,rfl,rfl⟩,rfl,rfl,.inl ⟨_,rfl,rfl,rfl⟩,rfl,rfl,.inl ⟨_,rfl,rfl,rfl⟩,rfl,trivial⟩ rfl rfl) rfl) ?_
  obtain ⟨r7,h8,H⟩:=bnd H
  refine z0k (z1k (z57 r4.2 [wr (low2 - 1),wr (high3+1),low2,high3,(-1099511627776),1099511627776] r7 h8) rfl ⟨.inl rfl,trivial⟩ rfl) rfl ?_
  refine qe rfl ?_
  refine z0q ?_
  cases H
  exact ⟨trivial,⟨.inl rfl,trivial⟩,rfl⟩
 ·replace H:=iff_ h6 H
  refine z0l ?_
  refine z0c ?_
  refine z0b hN rfl ?_
  refine z0a (z0h (.ptr _ _) rfl) ?_
  refine qd rfl ?_
  refine qd rfl ?_
  obtain ⟨r9,h10,H⟩:=bnd H
  refine z0k (z1k (z60 r4.2 low2 high3 r9 h10) rfl ⟨.inl rfl,.inl rfl,trivial⟩ rfl) rfl ?_
  refine qe rfl ?_
  refine z0q ?_
  cases H
  exact ⟨trivial,⟨.inl rfl,trivial⟩,rfl⟩
theorem y0i (s1:z0d) (r:(z0f×z0d)) (H:z4m s1=some r):Imp Tryz.prog 4 25 (z0p s1) [] (z2f [vagg (z0w r.1)]) (z0p r.2):=by
 refine z81 (us:=[vagg (z0w r.1)]) (cs':=(z0p r.2)) (by kernel_rfl) Tryz.func4 rfl rfl rfl rfl fun X bl hN => ?_
 unfold z4m at H
 refine z0c ?_
 refine z0b hN rfl ?_
 refine z0k (z65 1 y0l rfl) rfl ?_
 refine z0c ?_
 refine z0b hN rfl ?_
 refine z0a (z0h (.ptr _ _) rfl) ?_
 obtain ⟨r2,h3,H⟩:=bnd H
 refine z0k (z1k (z68 s1 r2 h3) rfl trivial rfl) rfl ?_
 refine z0k (z65 2 y0l rfl) rfl ?_
 refine z0k (z4h z6c rfl rfl rfl rfl) rfl ?_
 refine z0z (ι:=(List Int)×Int×Bs×Bs×Bs×Bs×(List Bs)×(List Bs)×Int×Int) (fun i=>[(2,.ptr 1 0),(3,.ptr 2 0)]) (fun i=>[(0,.box (some bl) 25 [.dat (vlst (List.map y1t i.1)),.dat (vint i.2.1)]),(1,.box none 28 [.dat (vstr []),.dat (vstr []),.dat (vstr []),.dat (vstr []),.dat (vnil),.dat (vnil),.dat (vint 0),.dat (vint 0)]),(2,.box none 28 [.dat (vstr i.2.2.1),.dat (vstr i.2.2.2.1),.dat (vstr i.2.2.2.2.1),.dat (vstr i.2.2.2.2.2.1),.dat (vlst (List.map z0j i.2.2.2.2.2.2.1)),.dat (vlst (List.map z0j i.2.2.2.2.2.2.2.1)),.dat (vint i.2.2.2.2.2.2.2.2.1),.dat (vint i.2.2.2.2.2.2.2.2.2)])]) (fun i=>z1j i.1 i.2.1 i.2.2.1 i.2.2.2.1 i.2.2.2.2.1 i.2.2.2.2.2.1 i.2.2.2.2.2.2.1 i.2.2.2.2.2.2.2.1 i.2.2.2.2.2.2.2.2.1 i.2.2.2.2.2.2.2.2.2=some r) (fun i=>rfl) ?_ ?_
 ·skip
  refine z0c ?_
  refine z0b hN rfl ?_
  refine z0a (z0h (.ptr _ _) rfl) ?_
  obtain ⟨r4,h5,H⟩:=bnd H
  refine z0k (z1k (z3n r2.2 8 r4 h5) rfl ⟨.inl rfl,trivial⟩ rfl) rfl ?_
  refine z0i _ rfl (fun h6 => ?_) (fun h6 => ?_)
  ·replace H:=ift h6 H
   refine z0c ?_
   refine z0b hN rfl ?_
   refine z0a (z0h (.ptr _ _) rfl) ?_
   obtain ⟨r7,h8,H⟩:=bnd H
   refine z0k (z1k (z1t r4.2 5 r7 h8) rfl ⟨.inl rfl,trivial⟩ rfl) rfl ?_
   refine z01 ?_
   refine z0c ?_
   refine z0b hN rfl ?_
   refine z0a (z10 rfl rfl) ?_
   refine qe rfl ?_
   refine z0i _ rfl (fun h9 => ?_) (fun h9 => ?_)
   ·replace H:=ift h9 H
    refine z0b hN rfl ?_
    refine z0a (z0h (.ptr _ _) rfl) ?_
    refine z0a (z1e (u':=vlst (List.map z0j [[],[65],[116,49]])) (z3t [[_],[_],[_]] z6o ⟨rfl,.inl ⟨_,rfl,rfl,rfl⟩,rfl,rfl,.inl ⟨_,rfl,rfl,rfl⟩,rfl,rfl,.inl ⟨_,rfl,rfl,rfl⟩,rfl,trivial⟩ rfl rfl) rfl) ?_
    obtain ⟨r10,h11,H⟩:=bnd H
    refine z0k (z1k (z09 r7.2 ([[],[65],[116,49]]) r10 h11) rfl ⟨.inl rfl,trivial⟩ rfl) rfl ?_
    refine z0a (z0h (.ptr _ _) rfl) ?_
    refine z0a (z1e (u':=vlst (List.map z0j [[97,110,110],[]])) (z3t [[_],[_]] z6o ⟨rfl,.inl ⟨_,rfl,rfl,rfl⟩,rfl,rfl,.inl ⟨_,rfl,rfl,rfl⟩,rfl,trivial⟩ rfl rfl) rfl) ?_
    obtain ⟨r12,h13,H⟩:=bnd H
    refine z0k (z1k (z09 r10.2 ([[97,110,110],[]]) r12 h13) rfl ⟨.inl rfl,trivial⟩ rfl) rfl ?_
    refine z0a (z0n y0o rfl) ?_
    refine z0k (z1g tyS9 rfl rfl rfl rfl) rfl ?_
    refine z0a (z0n y0n rfl) ?_
    refine z0k (z1g tyS9 rfl rfl rfl rfl) rfl ?_
    exact ⟨(r12.2.L,r12.2.at_,r10.1,r12.1,r2.1.Issuer,r2.1.Parent,r2.1.Audience,r2.1.Scopes,r2.1.From,r2.1.To),H,⟨rfl,rfl,trivial⟩,⟨rfl,rfl,rfl,trivial⟩⟩
   ·replace H:=iff_ h9 H
    refine z0c ?_
    refine z0b hN rfl ?_
    refine z0a (z10 rfl rfl) ?_
    refine qe rfl ?_
    refine z0i _ rfl (fun h14 => ?_) (fun h14 => ?_)
    ·replace H:=ift h14 H
     refine z0b hN rfl ?_
     refine z0a (z0h (.ptr _ _) rfl) ?_
     refine z0a (z1e (u':=vlst (List.map z0j [[],[103,97,116,101]])) (z3t [[_],[_]] z6o ⟨rfl,.inl ⟨_,rfl,rfl,rfl⟩,rfl,rfl,.inl ⟨_,rfl,rfl,rfl⟩,rfl,trivial⟩ rfl rfl) rfl) ?_
     obtain ⟨r15,h16,H⟩:=bnd H
     refine z0k (z1k (z09 r7.2 ([[],[103,97,116,101]]) r15 h16) rfl ⟨.inl rfl,trivial⟩ rfl) rfl ?_
     refine z0a (z0h (.ptr _ _) rfl) ?_
     refine z0a (z1e (u':=vlst (List.map z0j [[65],[116,48]])) (z3t [[_],[_]] z6o ⟨rfl,.inl ⟨_,rfl,rfl,rfl⟩,rfl,rfl,.inl ⟨_,rfl,rfl,rfl⟩,rfl,trivial⟩ rfl rfl) rfl) ?_
     obtain ⟨r17,h18,H⟩:=bnd H
     refine z0k (z1k (z09 r15.2 ([[65],[116,48]]) r17 h18) rfl ⟨.inl rfl,trivial⟩ rfl) rfl ?_
     refine z0a (z0n y0m rfl) ?_
     refine z0k (z1g tyS9 rfl rfl rfl rfl) rfl ?_
     refine z0a (z0n z8n rfl) ?_
     refine z0k (z1g tyS9 rfl rfl rfl rfl) rfl ?_
     exact ⟨(r17.2.L,r17.2.at_,r2.1.Id,r2.1.Subject,r15.1,r17.1,r2.1.Audience,r2.1.Scopes,r2.1.From,r2.1.To),H,⟨rfl,rfl,trivial⟩,⟨rfl,rfl,rfl,trivial⟩⟩
    ·replace H:=iff_ h14 H
     refine z0c ?_
     refine z0b hN rfl ?_
     refine z0a (z10 rfl rfl) ?_
     refine qe rfl ?_
     refine z0i _ rfl (fun h19 => ?_) (fun h19 => ?_)
     ·replace H:=ift h19 H
      refine z0b hN rfl ?_
      refine z0a (z1e (u':=vlst (List.map z0j [[115,104,111,112],[109,97,112,115]])) (z3t [[_],[_]] z6o ⟨rfl,.inl ⟨_,rfl,rfl,rfl⟩,rfl,rfl,.inl ⟨_,rfl,rfl,rfl⟩,rfl,trivial⟩ rfl rfl) rfl) ?_
      refine z0a (z1e (u':=vlst (List.map z0j [[]])) (z3t [[_]] z6o ⟨rfl,.inl ⟨_,rfl,rfl,rfl⟩,rfl,trivial⟩ rfl rfl) rfl) ?_
      refine z0a (z1e (u':=vlst (List.map z0j [[97],[97]])) (z3t [[_],[_]] z6o ⟨rfl,.inl ⟨_,rfl,rfl,rfl⟩,rfl,rfl,.inl ⟨_,rfl,rfl,rfl⟩,rfl,trivial⟩ rfl rfl) rfl) ?_
      refine z0a (z1e (u':=vlst (List.map y4u [[[115,104,111,112],[109,97,112,115]],[[]],[[97],[97]]])) (z3t [[_],[_],[_]] x6l ⟨rfl,.inl ⟨_,rfl,rfl,rfl⟩,rfl,rfl,.inl ⟨_,rfl,rfl,rfl⟩,rfl,rfl,.inl ⟨_,rfl,rfl,rfl⟩,rfl,trivial⟩ rfl rfl) rfl) ?_
      refine z0a (z0h (.ptr _ _) rfl) ?_
      obtain ⟨r20,h21,H⟩:=bnd H
      refine z0k (z1k (z1t r7.2 3 r20 h21) rfl ⟨.inl rfl,trivial⟩ rfl) rfl ?_
      obtain ⟨x22,h23,H⟩:=bnd H
      refine z0a (y1w x6n (fun _=>rfl) rfl rfl h23) ?_
      refine z0a (z1b z6w rfl (z5q (z8l h23).2) rfl) ?_
      refine z0a (z0n z8c rfl) ?_
      refine z0k (z1g z6w rfl rfl rfl rfl) rfl ?_
      exact ⟨(r20.2.L,r20.2.at_,r2.1.Id,r2.1.Subject,r2.1.Issuer,r2.1.Parent,x22,r2.1.Scopes,r2.1.From,r2.1.To),H,⟨rfl,rfl,trivial⟩,⟨rfl,rfl,rfl,trivial⟩⟩
     ·replace H:=iff_ h19 H
      refine z0c ?_
      refine z0b hN rfl ?_
      refine z0a (z10 rfl rfl) ?_
      refine qe rfl ?_
      refine z0i _ rfl (fun h24 => ?_) (fun h24 => ?_)
      ·replace H:=ift h24 H
       refine z0b hN rfl ?_
       refine z0a (z0h (.ptr _ _) rfl) ?_
       obtain ⟨r25,h26,H⟩:=bnd H
       refine z0k (z1k (y0h r7.2 r25 h26) rfl trivial rfl) rfl ?_
       refine z0a (z0n z78 rfl) ?_
       refine z0k (z1g z6w rfl rfl rfl rfl) rfl ?_
       exact ⟨(r25.2.L,r25.2.at_,r2.1.Id,r2.1.Subject,r2.1.Issuer,r2.1.Parent,r2.1.Audience,r25.1,r2.1.From,r2.1.To),H,⟨rfl,rfl,trivial⟩,⟨rfl,rfl,rfl,trivial⟩⟩
      ·replace H:=iff_ h24 H
       refine z0b hN rfl ?_
       refine z0a (z0h (.ptr _ _) rfl) ?_
       obtain ⟨r27,h28,H⟩:=bnd H
       refine z0k (z1k (z8z r7.2 0 300 r27 h28) rfl ⟨.inl rfl,.inl rfl,trivial⟩ rfl) rfl ?_
       refine z0a (z0h (.ptr _ _) rfl) ?_
       obtain ⟨r29,h30,H⟩:=bnd H
       refine z0k (z1k (z8z r27.2 0 300 r29 h30) rfl ⟨.inl rfl,.inl rfl,trivial⟩ rfl) rfl ?_
       refine z0a (z0n z85 rfl) ?_
       refine z0k (z1g tyS3 rfl rfl rfl rfl) rfl ?_
       refine z0a (z0n z84 rfl) ?_
       refine z0k (z1g tyS3 rfl rfl rfl rfl) rfl ?_
       exact ⟨(r29.2.L,r29.2.at_,r2.1.Id,r2.1.Subject,r2.1.Issuer,r2.1.Parent,r2.1.Audience,r2.1.Scopes,r27.1,r29.1),H,⟨rfl,rfl,trivial⟩,⟨rfl,rfl,rfl,trivial⟩⟩
  ·replace H:=iff_ h6 H
   refine z0l ?_
   exact ⟨(r4.2.L,r4.2.at_,r2.1.Id,r2.1.Subject,r2.1.Issuer,r2.1.Parent,r2.1.Audience,r2.1.Scopes,r2.1.From,r2.1.To),H,⟨rfl,rfl,trivial⟩,⟨rfl,rfl,rfl,trivial⟩⟩
 ·rintro ⟨c31,c32,c33,c34,c35,c36,c37,c38,c39,c40⟩ H
  replace H:z1j c31 c32 c33 c34 c35 c36 c37 c38 c39 c40=some r:=H
  unfold z1j at H
  refine z0c ?_
  refine z0b hN rfl ?_
  refine z0u (z5p z6c rfl rfl rfl) rfl ?_
  refine z0k (z4h z6c rfl rfl rfl rfl) rfl ?_
  refine z0q ?_
  cases H
  exact ⟨trivial,⟨.inl ⟨_,_,_,z0w (z0f.mk c33 c34 c35 c36 c37 c38 c39 c40),rfl,rfl,rfl,rfl,z6c⟩,trivial⟩,rfl⟩
theorem z71 (l:List Bs) (sep r:Bs) (H:z3k l sep=some r):Fn Tryz.prog 24 [vlst (List.map z0j l),vstr sep] (z2f [vstr r]):=by
 obtain ⟨h1,h2,rfl⟩:=x09 H
 refine z8b (by kernel_rfl) fun M w vs hM h => ?_
 obtain ⟨hl,hv⟩:=h
 obtain ⟨a,ha,hap⟩:=hv 0 _ rfl
 obtain ⟨s,hs,hsp⟩:=hv 1 _ rfl
 have hsp:s = .string ⟨sep.toArray⟩:=hsp
 subst hsp
 have hvs:vs.toArray = #[a,.string ⟨sep.toArray⟩]:=by
  rcases vs with _ | ⟨x,_ | ⟨y,_ | ⟨z,t⟩⟩⟩
  ·cases ha
  ·cases hs
  ·cases ha; cases hs; rfl
  ·simp at hl
 rw [hvs]
 obtain ⟨A,c,q1,q2,q3⟩:=hap
 simp only [List.length_map] at q1 q2
 subst q1
 by_cases hne:l=[]
 ·subst hne
  refine (Tryz.strings_Join_none A c ⟨sep.toArray⟩ w).mono ?_
  rintro e w' ⟨rfl,rfl⟩
  exact ⟨_,rfl,rfl,Kp.refl _ _⟩
 ·obtain ⟨b,off,size,rfl,hMb,arr,t,fz,q5,q6,q7⟩:=q3 (by simpa using hne)
  have hsz:size=1:=by
   cases hq:l with
   | nil=>exact absurd hq hne
   | cons x l'=>have:=q6 (z0j x) (by rw [hq]; simp); simpa using this.symm
  subst hsz
  have e1:((l.map fun x=>ByteArray.mk x.toArray).map (·.data.toList))=l:=by
   rw [List.map_map]
   exact (List.map_congr_left fun x _=>rfl).trans (List.map_id l)
  have hj:=Tryz.strings_Join b off c (l.map fun x=>ByteArray.mk x.toArray) ⟨sep.toArray⟩ w (fun j x hx=>by
   rw [List.getElem?_map] at hx
   cases hq:l[j]? with
   | none=>rw [hq] at hx; cases hx
   | some y =>
    rw [hq] at hx
    cases hx
    obtain ⟨v,r1,r2,_⟩:=q7 j 0 (z0j y) (vstr y) (by rw [List.getElem?_map,hq]; rfl) rfl
    have r2:v = .string ⟨y.toArray⟩:=r2
    rw [cell_of_row w b _ _ _ _ q5]
    simp only [Nat.mul_one,Nat.add_zero] at r1
    rw [r1,r2]) (y0z q5) (by simp; omega) (by simpa using q2) (by rw [e1]; simp only; omega)
  rw [List.length_map,e1] at hj
  refine hj.mono ?_
  rintro e w' ⟨rfl,hb⟩
  exact ⟨_,rfl,rfl,Kp.of_below hb⟩
theorem z73 (n:Int) (r:Bs) (H:z4o n=some r):Fn Tryz.prog 25 [vint n] (z2f [vstr r]):=by
 obtain ⟨⟨h1,h2⟩,h3⟩:=gif H
 cases h3
 refine z8b (by kernel_rfl) fun M w vs hM h => ?_
 have hv:=z92 (us:=[.int .i64 n]) h
 subst hv
 refine (Tryz.strconv_Itoa n h1 h2 w (x0s hM)).mono ?_
 rintro e w' ⟨rfl,k,os,rfl⟩
 exact ⟨_,rfl,rfl,Kp.of_below ⟨rfl,rfl,rfl,by show w.heap.size≤(w.heap++os).size; rw [Array.size_append]; omega,fun j hj=>by show (w.heap++os)[j]?=w.heap[j]?; exact Array.getElem?_append_left hj⟩⟩
theorem z8m (c1:z0f) (r:(Bs)) (H:z38 c1=some r):Fn Tryz.prog 20 [vagg (z0w c1)] (z2f [vstr r]):=by
 refine ⟨by kernel_rfl,z2a (us:=[vstr r]) Tryz.func20 rfl rfl rfl rfl fun X hN => ?_⟩
 unfold z38 at H
 refine z0c ?_
 refine z0b hN rfl ?_
 refine z0k (z9d 1 rfl) rfl ?_
 refine qe rfl ?_
 refine z0c ?_
 refine z0b hN rfl ?_
 refine z0a (z0n y0o rfl) ?_
 refine z0u (z0r tyS9 rfl rfl) rfl ?_
 obtain ⟨h2,H⟩:=gif H
 refine z0a (z18 rfl rfl (Nat.le_trans h2 (by decide))) ?_
 refine z0a (z0n y0n rfl) ?_
 refine z0u (z0r tyS9 rfl rfl) rfl ?_
 obtain ⟨h3,H⟩:=gif H
 refine z0a (z18 rfl rfl (Nat.le_trans h3 (by decide))) ?_
 refine z0a (z0n y0m rfl) ?_
 refine z0u (z0r tyS9 rfl rfl) rfl ?_
 obtain ⟨h4,H⟩:=gif H
 refine z0a (z18 rfl rfl (Nat.le_trans h4 (by decide))) ?_
 refine z0k (x6w (C:=z0j) 2 ([([105,100,32]++c1.Id),([115,117,98,106,101,99,116,32]++c1.Subject),([105,115,115,117,101,114,32]++c1.Issuer)]:(List Bs)) z6o ⟨rfl,.inl ⟨_,rfl,rfl,rfl⟩,rfl,rfl,.inl ⟨_,rfl,rfl,rfl⟩,rfl,rfl,.inl ⟨_,rfl,rfl,rfl⟩,rfl,trivial⟩ rfl rfl rfl) rfl ?_
 refine z0a (z2i (.row _ _) rfl) ?_
 refine z0z (ι:=(List Bs)) (fun i=>[(1,.ptr 1 0),(3,.row 2 i.length)]) (fun i=>[(1,.box none 28 [.dat (vstr c1.Id),.dat (vstr c1.Subject),.dat (vstr c1.Issuer),.dat (vstr c1.Parent),.dat (vlst (List.map z0j c1.Audience)),.dat (vlst (List.map z0j c1.Scopes)),.dat (vint c1.From),.dat (vint c1.To)]),(2,.row 9 1 (List.map z0j i))]) (fun i=>z3a c1 i=some r) (fun i=>rfl) ?_ ?_
 ·skip
  refine z0c ?_
  refine z0b hN rfl ?_
  refine z0a (z0n z8n rfl) ?_
  refine z0u (z0r tyS9 rfl rfl) rfl ?_
  refine z0a (z7d rfl rfl) ?_
  refine z0i _ rfl (fun h5 => ?_) (fun h5 => ?_)
  ·replace H:=ift h5 H
   refine z0b hN rfl ?_
   refine z0a (z0h (.row _ _) rfl) ?_
   refine z0a (z0n z8n rfl) ?_
   refine z0u (z0r tyS9 rfl rfl) rfl ?_
   obtain ⟨h6,H⟩:=gif H
   refine z0a (z18 rfl rfl (Nat.le_trans h6 (by decide))) ?_
   refine z0a (z1e (u':=vlst (List.map z0j [([112,97,114,101,110,116,32]++c1.Parent)])) (z3t [[_]] z6o ⟨rfl,.inl ⟨_,rfl,rfl,rfl⟩,rfl,trivial⟩ rfl rfl) rfl) ?_
   obtain ⟨h7,H⟩:=gif H
   refine z0k (y41 z6o (fun _=>rfl) rfl rfl rfl ⟨by simp,by first | (simp; done) | simpa using h7⟩ rfl) rfl ?_
   refine z0a (z2i (.row _ _) rfl) ?_
   exact ⟨(([([105,100,32]++c1.Id),([115,117,98,106,101,99,116,32]++c1.Subject),([105,115,115,117,101,114,32]++c1.Issuer)]:(List Bs))++([([112,97,114,101,110,116,32]++c1.Parent)])),H,⟨rfl,rfl,trivial⟩,⟨rfl,rfl,trivial⟩⟩
  ·replace H:=iff_ h5 H
   refine z0l ?_
   exact ⟨([([105,100,32]++c1.Id),([115,117,98,106,101,99,116,32]++c1.Subject),([105,115,115,117,101,114,32]++c1.Issuer)]:(List Bs)),H,⟨rfl,rfl,trivial⟩,⟨rfl,rfl,trivial⟩⟩
 ·rintro l8 H
  replace H:z3a c1 l8=some r:=H
  unfold z3a at H
  refine z0z (ι:=(List Bs)) (fun i=>[(1,.ptr 1 0),(3,.row 2 i.length)]) (fun i=>[(1,.box none 28 [.dat (vstr c1.Id),.dat (vstr c1.Subject),.dat (vstr c1.Issuer),.dat (vstr c1.Parent),.dat (vlst (List.map z0j c1.Audience)),.dat (vlst (List.map z0j c1.Scopes)),.dat (vint c1.From),.dat (vint c1.To)]),(2,.row 9 1 (List.map z0j i))]) (fun i=>z29 c1 i=some r) (fun i=>rfl) ?_ ?_
  ·skip
   refine z0c ?_
   refine z0b hN rfl ?_
   refine z0a (z0n z8c rfl) ?_
   refine z0u (z0r z6w rfl rfl) rfl ?_
   refine z0a (z6g z6n rfl) ?_
   refine z0a (z4y rfl rfl) ?_
   refine z0i _ rfl (fun h9 => ?_) (fun h9 => ?_)
   ·replace H:=ift h9 H
    refine z0b hN rfl ?_
    refine z0a (z0h (.row _ _) rfl) ?_
    refine z0a (z0n z8c rfl) ?_
    refine z0u (z0r z6w rfl rfl) rfl ?_
    obtain ⟨r10,h11,H⟩:=bnd H
    refine z0a (z0s (z71 c1.Audience [32] r10 h11) ⟨.inl rfl,.inl rfl,trivial⟩) ?_
    obtain ⟨h12,H⟩:=gif H
    refine z0a (z18 rfl rfl (Nat.le_trans h12 (by decide))) ?_
    refine z0a (z1e (u':=vlst (List.map z0j [([102,111,114,32]++r10)])) (z3t [[_]] z6o ⟨rfl,.inl ⟨_,rfl,rfl,rfl⟩,rfl,trivial⟩ rfl rfl) rfl) ?_
    obtain ⟨h13,H⟩:=gif H
    refine z0k (y41 z6o (fun _=>rfl) rfl rfl rfl ⟨by simp,by first | (simp; done) | simpa using h13⟩ rfl) rfl ?_
    refine z0a (z2i (.row _ _) rfl) ?_
    exact ⟨(l8++([([102,111,114,32]++r10)])),H,⟨rfl,rfl,trivial⟩,⟨rfl,rfl,trivial⟩⟩
   ·replace H:=iff_ h9 H
    refine z0l ?_
    exact ⟨l8,H,⟨rfl,rfl,trivial⟩,⟨rfl,rfl,trivial⟩⟩
  ·rintro l14 H
   replace H:z29 c1 l14=some r:=H
   unfold z29 at H
   refine z0z (ι:=(List Bs)) (fun i=>[(1,.ptr 1 0),(3,.row 2 i.length)]) (fun i=>[(1,.box none 28 [.dat (vstr c1.Id),.dat (vstr c1.Subject),.dat (vstr c1.Issuer),.dat (vstr c1.Parent),.dat (vlst (List.map z0j c1.Audience)),.dat (vlst (List.map z0j c1.Scopes)),.dat (vint c1.From),.dat (vint c1.To)]),(2,.row 9 1 (List.map z0j i))]) (fun i=>z28 c1 i=some r) (fun i=>rfl) ?_ ?_
   ·skip
    refine z0c ?_
    refine z0b hN rfl ?_
    refine z0a (z0n z78 rfl) ?_
    refine z0u (z0r z6w rfl rfl) rfl ?_
    refine z0a (z6g z6n rfl) ?_
    refine z0a (z4y rfl rfl) ?_
    refine z0i _ rfl (fun h15 => ?_) (fun h15 => ?_)
    ·replace H:=ift h15 H
     refine z0b hN rfl ?_
     refine z0a (z0h (.row _ _) rfl) ?_
     refine z0a (z0n z78 rfl) ?_
     refine z0u (z0r z6w rfl rfl) rfl ?_
     obtain ⟨r16,h17,H⟩:=bnd H
     refine z0a (z0s (z71 c1.Scopes [32] r16 h17) ⟨.inl rfl,.inl rfl,trivial⟩) ?_
     obtain ⟨h18,H⟩:=gif H
     refine z0a (z18 rfl rfl (Nat.le_trans h18 (by decide))) ?_
     refine z0a (z1e (u':=vlst (List.map z0j [([109,97,121,32]++r16)])) (z3t [[_]] z6o ⟨rfl,.inl ⟨_,rfl,rfl,rfl⟩,rfl,trivial⟩ rfl rfl) rfl) ?_
     obtain ⟨h19,H⟩:=gif H
     refine z0k (y41 z6o (fun _=>rfl) rfl rfl rfl ⟨by simp,by first | (simp; done) | simpa using h19⟩ rfl) rfl ?_
     refine z0a (z2i (.row _ _) rfl) ?_
     exact ⟨(l14++([([109,97,121,32]++r16)])),H,⟨rfl,rfl,trivial⟩,⟨rfl,rfl,trivial⟩⟩
    ·replace H:=iff_ h15 H
     refine z0l ?_
     exact ⟨l14,H,⟨rfl,rfl,trivial⟩,⟨rfl,rfl,trivial⟩⟩
   ·rintro l20 H
    replace H:z28 c1 l20=some r:=H
    unfold z28 at H
    refine z0c ?_
    refine z5v mixed hN rfl rfl ?_
    refine z0a (z0h (.row _ _) rfl) ?_
    refine z0a (z0n z85 rfl) ?_
    refine z0u (z0r tyS3 rfl rfl) rfl ?_
    obtain ⟨r21,h22,H⟩:=bnd H
    refine z0a (z0s (z73 c1.From r21 h22) ⟨.inl rfl,trivial⟩) ?_
    obtain ⟨h23,H⟩:=gif H
    refine z0a (z18 rfl rfl (Nat.le_trans h23 (by decide))) ?_
    obtain ⟨h24,H⟩:=gif H
    refine z0a (z18 rfl rfl (Nat.le_trans h24 (by decide))) ?_
    refine z0a (z0n z84 rfl) ?_
    refine z0u (z0r tyS3 rfl rfl) rfl ?_
    obtain ⟨r25,h26,H⟩:=bnd H
    refine z0a (z0s (z73 c1.To r25 h26) ⟨.inl rfl,trivial⟩) ?_
    obtain ⟨h27,H⟩:=gif H
    refine z0a (z18 rfl rfl (Nat.le_trans h27 (by decide))) ?_
    refine z0a (z1e (u':=vlst (List.map z0j [((([116,105,109,101,32]++r21)++[32])++r25)])) (z3t [[_]] z6o ⟨rfl,.inl ⟨_,rfl,rfl,rfl⟩,rfl,trivial⟩ rfl rfl) rfl) ?_
    obtain ⟨h28,H⟩:=gif H
    refine z0k (y41 z6o (fun _=>rfl) rfl rfl rfl ⟨by simp,by first | (simp; done) | simpa using h28⟩ rfl) rfl ?_
    refine z0a (z2i (.row _ _) rfl) ?_
    refine ⟨rfl,?_⟩
    refine z0c ?_
    refine y7w 3 2 rfl rfl rfl ?_
    refine z0b hN rfl ?_
    refine qd rfl ?_
    obtain ⟨r29,h30,H⟩:=bnd H
    refine z0a (z0s (z71 (l20++([((([116,105,109,101,32]++r21)++[32])++r25)])) [10] r29 h30) ⟨.inl rfl,.inl rfl,trivial⟩) ?_
    obtain ⟨h31,H⟩:=gif H
    refine z0a (z18 rfl rfl (Nat.le_trans h31 (by decide))) ?_
    refine qe rfl ?_
    refine z0q ?_
    cases H
    exact ⟨trivial,.inl rfl,trivial⟩
theorem y2h (s p q:Bs) (n:Int) (r:Bs) (H:z7p s p q n=some r):Fn Tryz.prog 23 [vstr s,vstr p,vstr q,vint n] (z2f [vstr r]):=by
 unfold z7p at H
 obtain ⟨⟨h1,h2,h3⟩,h4⟩:=gif H
 cases h4
 refine z8b (by kernel_rfl) fun M w vs hM h => ?_
 have hv:=z92 (us:=[.string ⟨s.toArray⟩,.string ⟨p.toArray⟩,.string ⟨q.toArray⟩,.int .i64 n]) h
 subst hv
 obtain ⟨m,hm⟩:=y1m hM
 have hle:=Lib.countB_le ⟨p.toArray⟩ (by simpa [ByteArray.size] using h2) _ ⟨s.toArray⟩ (Nat.le_refl _)
 have e1:(ByteArray.mk s.toArray).size=s.length:=by simp [ByteArray.size]
 have e2:(ByteArray.mk q.toArray).size=q.length:=by simp [ByteArray.size]
 have hmul:Lib.countB ⟨s.toArray⟩ ⟨p.toArray⟩ * q.length≤1000001 * 1000000:=Nat.mul_le_mul (by omega) h3
 refine (Tryz.strings_Replace ⟨s.toArray⟩ ⟨p.toArray⟩ ⟨q.toArray⟩ n m w (by rw [e1]; omega) hm (by simpa [ByteArray.size] using h2) (by rw [e1,e2]; omega)).mono ?_
 rintro e w' ⟨rfl,hb⟩
 exact ⟨_,rfl,rfl,Kp.of_below hb⟩

theorem z99 (s1:z0d) (t2:Bs) (v3:Bs) (r:(Bs×z0d)) (H:z4c s1 t2 v3=some r):Imp Tryz.prog 22 25 (z0p s1) [vstr t2,vstr v3] (z2f [vstr r.1]) (z0p r.2):=by
 refine z81 (us:=[vstr r.1]) (cs':=(z0p r.2)) (by kernel_rfl) Tryz.func22 rfl rfl rfl rfl fun X bl hN => ?_
 unfold z4c at H
 refine z0c ?_
 refine z0b hN rfl ?_
 refine qe rfl ?_
 refine z0c ?_
 refine z0c ?_
 refine z0b hN rfl ?_
 refine qd rfl ?_
 refine z0a (z56 rfl rfl) ?_
 refine qd rfl ?_
 refine z43 rfl rfl (fun hc=>z0h (.dat _) rfl) ?_
 refine z43 rfl rfl (fun hc=>z56 (cnd (c:=(!(decide (t2=[])))) hc) rfl) ?_
 refine z0a (z4q rfl rfl (fun hb=>(cnd (c:=(!(decide (t2=[])))) (notI hb)))) ?_
 refine z0i _ rfl (fun h4 => ?_) (fun h4 => ?_)
 ·replace H:=ift h4 H
  refine z0c ?_
  refine z0b hN rfl ?_
  refine qd rfl ?_
  refine qe rfl ?_
  refine z0q ?_
  cases H
  exact ⟨trivial,⟨.inl rfl,trivial⟩,rfl⟩
 ·replace H:=iff_ h4 H
  refine z0l ?_
  refine z0c ?_
  refine z0b hN rfl ?_
  refine z0a (z0h (.ptr _ _) rfl) ?_
  refine qd rfl ?_
  refine z0a (z1v tyU9 rfl) ?_
  obtain ⟨r5,h6,H⟩:=bnd H
  refine z0k (z1k (z1t s1 (t2.length:Int) r5 h6) rfl ⟨.inl rfl,trivial⟩ rfl) rfl ?_
  refine qe rfl ?_
  refine z0c ?_
  refine z0b hN rfl ?_
  refine qd rfl ?_
  refine z0a (z0h (.ptr _ _) rfl) ?_
  refine qd rfl ?_
  refine z0a (z1v tyU9 rfl) ?_
  obtain ⟨r7,h8,H⟩:=bnd H
  refine z0k (z1k (z1t r5.2 (v3.length:Int) r7 h8) rfl ⟨.inl rfl,trivial⟩ rfl) rfl ?_
  obtain ⟨x9,h10,H⟩:=bnd H
  refine z0a (y0p tyU9 rfl rfl h10) ?_
  refine qe rfl ?_
  refine z0c ?_
  refine z0c ?_
  refine z0b hN rfl ?_
  refine z0a (z0h (.ptr _ _) rfl) ?_
  obtain ⟨r11,h12,H⟩:=bnd H
  refine z0k (z1k (z1t r7.2 3 r11 h12) rfl ⟨.inl rfl,trivial⟩ rfl) rfl ?_
  refine z01 ?_
  refine z0c ?_
  refine z0b hN rfl ?_
  refine z0a (z10 rfl rfl) ?_
  refine qe rfl ?_
  refine z0i _ rfl (fun h13 => ?_) (fun h13 => ?_)
  ·replace H:=ift h13 H
   refine z0c ?_
   refine z5v mixed hN rfl rfl ?_
   refine qd rfl ?_
   refine qd rfl ?_
   obtain ⟨l14,h15,H⟩:=bnd H
   refine z0a (z9b tyU9 rfl rfl rfl h15) ?_
   refine qd rfl ?_
   refine z0a (z7o tyU5 x2j rfl) ?_
   refine z0a (y5u x2j rfl tyU9 rfl) ?_
   obtain ⟨h16,H⟩:=gif H
   refine z0a (z18 rfl rfl (Nat.le_trans h16 (by decide))) ?_
   refine qd rfl ?_
   refine qd rfl ?_
   refine z0a (z1l _ rfl rfl (.inl ⟨rfl,rfl⟩)) ?_
   obtain ⟨l17,h18,H⟩:=bnd H
   refine z0a (z9b tyU9 rfl rfl rfl h18) ?_
   obtain ⟨h19,H⟩:=gif H
   refine z0a (z18 rfl rfl (Nat.le_trans h19 (by decide))) ?_
   refine qe rfl ?_
   refine ⟨rfl,?_⟩
   refine z0q ?_
   cases H
   exact ⟨trivial,⟨.inl rfl,trivial⟩,rfl⟩
  ·replace H:=iff_ h13 H
   refine z0c ?_
   refine z0b hN rfl ?_
   refine z0a (z10 rfl rfl) ?_
   refine qe rfl ?_
   refine z0i _ rfl (fun h20 => ?_) (fun h20 => ?_)
   ·replace H:=ift h20 H
    refine z0c ?_
    refine z5v mixed hN rfl rfl ?_
    refine qd rfl ?_
    refine qd rfl ?_
    obtain ⟨l21,h22,H⟩:=bnd H
    refine z0a (z9b tyU9 rfl rfl rfl h22) ?_
    refine qd rfl ?_
    refine z0a (z7o tyU5 x2j rfl) ?_
    refine z0a (y5u x2j rfl tyU9 rfl) ?_
    obtain ⟨h23,H⟩:=gif H
    refine z0a (z18 rfl rfl (Nat.le_trans h23 (by decide))) ?_
    refine qd rfl ?_
    refine qd rfl ?_
    obtain ⟨l24,h25,H⟩:=bnd H
    refine z0a (z9b tyU9 rfl rfl rfl h25) ?_
    obtain ⟨h26,H⟩:=gif H
    refine z0a (z18 rfl rfl (Nat.le_trans h26 (by decide))) ?_
    refine qe rfl ?_
    refine ⟨rfl,?_⟩
    refine z0q ?_
    cases H
    exact ⟨trivial,⟨.inl rfl,trivial⟩,rfl⟩
   ·replace H:=iff_ h20 H
    refine z0l ?_
    refine z0c ?_
    refine z5v mixed hN rfl rfl ?_
    refine qd rfl ?_
    refine qd rfl ?_
    obtain ⟨l27,h28,H⟩:=bnd H
    refine z0a (z9b tyU9 rfl rfl rfl h28) ?_
    refine qd rfl ?_
    refine qd rfl ?_
    refine z0a (z1l _ rfl rfl (.inl ⟨rfl,rfl⟩)) ?_
    obtain ⟨l29,h30,H⟩:=bnd H
    refine z0a (z9b tyU9 rfl rfl rfl h30) ?_
    obtain ⟨h31,H⟩:=gif H
    refine z0a (z18 rfl rfl (Nat.le_trans h31 (by decide))) ?_
    refine qe rfl ?_
    refine ⟨rfl,?_⟩
    refine z0q ?_
    cases H
    exact ⟨trivial,⟨.inl rfl,trivial⟩,rfl⟩
theorem z9h (s1:z0d) (r:(Bs×z0d)) (H:z3o s1=some r):Imp Tryz.prog 5 25 (z0p s1) [] (z2f [vstr r.1]) (z0p r.2):=by
 refine z81 (us:=[vstr r.1]) (cs':=(z0p r.2)) (by kernel_rfl) Tryz.func5 rfl rfl rfl rfl fun X bl hN => ?_
 unfold z3o at H
 refine z0c ?_
 refine z0b hN rfl ?_
 refine qe rfl ?_
 refine z0c ?_
 refine z0b hN rfl ?_
 refine z0a (z0h (.ptr _ _) rfl) ?_
 obtain ⟨r2,h3,H⟩:=bnd H
 refine z0k (z1k (z68 s1 r2 h3) rfl trivial rfl) rfl ?_
 obtain ⟨r4,h5,H⟩:=bnd H
 refine z0a (z0s (z8m r2.1 r4 h5) ⟨.inl rfl,trivial⟩) ?_
 refine qe rfl ?_
 refine z0c ?_
 refine z0c ?_
 refine z0b hN rfl ?_
 refine z0a (z0h (.ptr _ _) rfl) ?_
 refine z0a (z1e (u':=vlst (List.map y1t [0,0,1,2])) (z3t [[_],[_],[_],[_]] x2l ⟨rfl,.inl ⟨_,rfl,rfl,rfl⟩,rfl,rfl,.inl ⟨_,rfl,rfl,rfl⟩,rfl,rfl,.inl ⟨_,rfl,rfl,rfl⟩,rfl,rfl,.inl ⟨_,rfl,rfl,rfl⟩,rfl,trivial⟩ rfl rfl) rfl) ?_
 obtain ⟨r6,h7,H⟩:=bnd H
 refine z0k (z1k (z57 r2.2 [0,0,1,2] r6 h7) rfl ⟨.inl rfl,trivial⟩ rfl) rfl ?_
 refine qd rfl ?_
 refine z01 ?_
 obtain ⟨h13,H⟩:=gif H
 refine y30 (fun (k11:Nat) (s:Bs×(List Int)×Int)=>[(0,.ptr 0 0),(3,.dat (vstr s.1)),(9,.dat (vint r6.1)),(10,.dat (vint (k11:Int)))]) (fun (k11:Nat) (s:Bs×(List Int)×Int)=>[(0,.box (some bl) 25 [.dat (vlst (List.map y1t s.2.1)),.dat (vint s.2.2)])]) (r4,r6.2.L,r6.2.at_) H ⟨rfl,rfl,rfl,rfl,trivial⟩ ⟨rfl,trivial⟩ (fun _ _=>rfl) ?_ ?_
 ·rintro ⟨t8,c9,c10⟩ H
  replace H:z4e t8 c9 c10=some r:=H
  unfold z4e at H
  refine z0c ?_
  refine z0b hN rfl ?_
  refine z0a (z1i rfl rfl) ?_
  refine z0c ?_
  refine z0i _ rfl (fun h=>(x3w h).elim) (fun h => ?_)
  refine z34 ?_
  refine z0z (ι:=Bs×(List Int)×Int) (fun i=>[(3,.dat (vstr i.1))]) (fun i=>[(0,.box (some bl) 25 [.dat (vlst (List.map y1t i.2.1)),.dat (vint i.2.2)])]) (fun i=>z2c i.1 i.2.1 i.2.2=some r) (fun i=>rfl) ?_ ?_
  ·skip
   refine z0c ?_
   refine z0b hN rfl ?_
   refine z0a (z0h (.ptr _ _) rfl) ?_
   obtain ⟨r14,h15,H⟩:=bnd H
   refine z0k (z1k (z3n (z0d.mk c9 c10) 10 r14 h15) rfl ⟨.inl rfl,trivial⟩ rfl) rfl ?_
   refine z0i _ rfl (fun h16 => ?_) (fun h16 => ?_)
   ·replace H:=ift h16 H
    refine z0b hN rfl ?_
    refine qd rfl ?_
    refine z0a (z0h (.ptr _ _) rfl) ?_
    refine z0a (z1e (u':=vlst (List.map z0j [[105,100,32,116,49,10],[116,105,109,101],[10,105,115,115,117,101,114],[115,117,98,106,101,99,116],[109,97,121]])) (z3t [[_],[_],[_],[_],[_]] z6o ⟨rfl,.inl ⟨_,rfl,rfl,rfl⟩,rfl,rfl,.inl ⟨_,rfl,rfl,rfl⟩,rfl,rfl,.inl ⟨_,rfl,rfl,rfl⟩,rfl,rfl,.inl ⟨_,rfl,rfl,rfl⟩,rfl,rfl,.inl ⟨_,rfl,rfl,rfl⟩,rfl,trivial⟩ rfl rfl) rfl) ?_
    obtain ⟨r17,h18,H⟩:=bnd H
    refine z0k (z1k (z09 r14.2 ([[105,100,32,116,49,10],[116,105,109,101],[10,105,115,115,117,101,114],[115,117,98,106,101,99,116],[109,97,121]]) r17 h18) rfl ⟨.inl rfl,trivial⟩ rfl) rfl ?_
    refine z0a (z0h (.ptr _ _) rfl) ?_
    refine z0a (z1e (u':=vlst (List.map z0j [[],[102,111,114],[10,105,100],[109,97,121],[10]])) (z3t [[_],[_],[_],[_],[_]] z6o ⟨rfl,.inl ⟨_,rfl,rfl,rfl⟩,rfl,rfl,.inl ⟨_,rfl,rfl,rfl⟩,rfl,rfl,.inl ⟨_,rfl,rfl,rfl⟩,rfl,rfl,.inl ⟨_,rfl,rfl,rfl⟩,rfl,rfl,.inl ⟨_,rfl,rfl,rfl⟩,rfl,trivial⟩ rfl rfl) rfl) ?_
    obtain ⟨r19,h20,H⟩:=bnd H
    refine z0k (z1k (z09 r17.2 ([[],[102,111,114],[10,105,100],[109,97,121],[10]]) r19 h20) rfl ⟨.inl rfl,trivial⟩ rfl) rfl ?_
    obtain ⟨r21,h22,H⟩:=bnd H
    refine z0a (z0s (y2h t8 r17.1 r19.1 1 r21 h22) ⟨.inl rfl,.inl rfl,.inl rfl,.inl rfl,trivial⟩) ?_
    refine qe rfl ?_
    exact ⟨(r21,r19.2.L,r19.2.at_),H,⟨rfl,trivial⟩,⟨rfl,trivial⟩⟩
   ·replace H:=iff_ h16 H
    refine z0l ?_
    exact ⟨(t8,r14.2.L,r14.2.at_),H,⟨rfl,trivial⟩,⟨rfl,trivial⟩⟩
  ·rintro ⟨t23,c24,c25⟩ H
   replace H:z2c t23 c24 c25=some r:=H
   unfold z2c at H
   refine z0c ?_
   refine z0b hN rfl ?_
   refine qd rfl ?_
   refine qe rfl ?_
   refine z0q ?_
   cases H
   exact ⟨trivial,⟨.inl rfl,trivial⟩,rfl⟩
 ·rintro k11 ⟨t8,c9,c10⟩ q12 h26 H hq12
  replace H:z4d k11 t8 c9 c10=some q12:=H
  unfold z4d at H
  refine z0c ?_
  refine z0b hN rfl ?_
  refine z0a (z1i rfl rfl) ?_
  refine z0c ?_
  refine z0i _ rfl (fun h => ?_) (fun h=>(x3x h26 h).elim)
  refine z0l ?_
  refine z0c ?_
  refine z01 ?_
  refine z0b hN rfl ?_
  refine z0a (z0h (.ptr _ _) rfl) ?_
  refine qd rfl ?_
  obtain ⟨r27,h28,H⟩:=bnd H
  refine z0k (z1k (z99 (z0d.mk c9 c10) t8 [32,10,105,116,48,115,58] r27 h28) rfl ⟨.inl rfl,.inl rfl,trivial⟩ rfl) rfl ?_
  refine qe rfl ?_
  refine z0b hN rfl ?_
  refine z0a (z6q rfl rfl (by omega)) ?_
  refine qd rfl ?_
  exact ⟨_,z9j H,⟨rfl,rfl,rfl,rfl,trivial⟩,⟨rfl,trivial⟩⟩
theorem z8p (s1:Bs) (r:(Bool)) (H:z6i s1=some r):Fn Tryz.prog 37 [vstr s1] (z2f [z02 r]):=by
 refine ⟨by kernel_rfl,z2a (us:=[z02 r]) Tryz.func37 rfl rfl rfl rfl fun X hN => ?_⟩
 unfold z6i at H
 refine z0c ?_
 refine z0b hN rfl ?_
 refine qe rfl ?_
 refine z0c ?_
 refine z0c ?_
 refine z0b hN rfl ?_
 refine qe rfl ?_
 refine z01 ?_
 obtain ⟨h4,H⟩:=gif H
 refine z64 (fun (i2:Nat) (s:Unit)=>[(0,.dat (vstr s1)),(3,.dat (vint (i2:Int)))]) (fun (i2:Nat) (s:Unit)=>[]) () H ⟨rfl,rfl,trivial⟩ trivial (fun _ _=>rfl) ?_ ?_
 ·rintro ⟨⟩ H
  replace H:y05 s1=some r:=H
  unfold y05 at H
  refine z0c ?_
  refine z0c ?_
  refine z0b hN rfl ?_
  refine qd rfl ?_
  refine qd rfl ?_
  refine z0a (z1v tyU9 rfl) ?_
  refine z0a (z1i rfl rfl) ?_
  refine z0i _ rfl (fun h=>(lt_t h).elim) (fun h => ?_)
  refine z34 ?_
  refine z0c ?_
  refine z0b hN rfl ?_
  refine qd rfl ?_
  refine z0a (z7d rfl rfl) ?_
  refine qd rfl ?_
  refine z4w rfl rfl (fun hc=>z0h (.dat _) rfl) ?_
  refine z4w rfl rfl (fun hc=>z1v tyU9 (cnd (c:=(decide (s1≠[]))) hc)) ?_
  refine z4w rfl rfl (fun hc=>z6z (cnd (c:=(decide (s1≠[]))) hc) rfl) ?_
  refine z0a (z1w rfl (fun hb=>(cnd (c:=(decide (s1≠[]))) hb)) rfl) ?_
  refine qe rfl ?_
  refine z0q ?_
  cases H
  exact ⟨trivial,.inl rfl,trivial⟩
 ·rintro i2 x5 ⟨⟩ q3 h6 h7 H hq3
  replace H:z95 i2 x5=some q3:=H
  unfold z95 at H
  refine z0c ?_
  refine z0c ?_
  refine z0b hN rfl ?_
  refine qd rfl ?_
  refine qd rfl ?_
  refine z0a (z1v tyU9 rfl) ?_
  refine z0a (z1i rfl rfl) ?_
  refine z0i _ rfl (fun h => ?_) (fun h=>(lt_f h6 h).elim)
  refine z0l ?_
  refine z0c ?_
  refine z01 ?_
  refine z0c ?_
  refine z0b hN rfl ?_
  refine qd rfl ?_
  refine qd rfl ?_
  refine z0a (z7s tyU9 rfl rfl h7) ?_
  refine qe rfl ?_
  refine z0c ?_
  refine z0b hN rfl ?_
  refine qd rfl ?_
  refine z0a (z8e rfl rfl) ?_
  refine qd rfl ?_
  refine z4w rfl rfl (fun hc=>z0h (.dat _) rfl) ?_
  refine z4w rfl rfl (fun hc=>z6z (cnd (c:=(decide (97≤(x5.toNat:Int)))) hc) rfl) ?_
  refine z0a (z1w rfl (fun hb=>(cnd (c:=(decide (97≤(x5.toNat:Int)))) hb)) rfl) ?_
  refine qd rfl ?_
  refine z43 rfl rfl (fun hc=>z0h (.dat _) rfl) ?_
  refine z43 rfl rfl (fun hc=>z4y (cnd (c:=(!((decide (97≤(x5.toNat:Int))) && (decide ((x5.toNat:Int)≤122))))) hc) rfl) ?_
  refine z43 rfl rfl (fun hc=>z0h (.dat _) (cnd (c:=(!((decide (97≤(x5.toNat:Int))) && (decide ((x5.toNat:Int)≤122))))) hc)) ?_
  refine z5w rfl rfl (fun hc=>z0h (.dat _) rfl) ?_
  refine z5w rfl rfl (fun hc=>z8e (cnd (c:=((!((decide (97≤(x5.toNat:Int))) && (decide ((x5.toNat:Int)≤122)))) && (decide (0 < (i2:Int))))) hc) rfl) ?_
  refine z5w rfl rfl (fun hc=>z0h (.dat _) (cnd (c:=((!((decide (97≤(x5.toNat:Int))) && (decide ((x5.toNat:Int)≤122)))) && (decide (0 < (i2:Int))))) hc)) ?_
  refine z5w rfl rfl (fun hc=>z0h (.dat _) rfl) ?_
  refine z5w rfl rfl (fun hc=>z6z (cnd (c:=(((!((decide (97≤(x5.toNat:Int))) && (decide ((x5.toNat:Int)≤122)))) && (decide (0 < (i2:Int)))) && (decide (48≤(x5.toNat:Int))))) hc) rfl) ?_
  refine z5w rfl rfl (fun hc=>z1w (cnd (c:=((!((decide (97≤(x5.toNat:Int))) && (decide ((x5.toNat:Int)≤122)))) && (decide (0 < (i2:Int))))) hc) (fun hb=>(cnd (c:=(((!((decide (97≤(x5.toNat:Int))) && (decide ((x5.toNat:Int)≤122)))) && (decide (0 < (i2:Int)))) && (decide (48≤(x5.toNat:Int))))) (andI hc hb))) rfl) ?_
  refine z5w rfl rfl (fun hc=>z0h (.dat _) (cnd (c:=((!((decide (97≤(x5.toNat:Int))) && (decide ((x5.toNat:Int)≤122)))) && (decide (0 < (i2:Int))))) hc)) ?_
  refine y1x rfl rfl (fun hc=>z0h (.dat _) rfl) ?_
  refine y1x rfl rfl (fun hc=>z10 (cnd (c:=(((!((decide (97≤(x5.toNat:Int))) && (decide ((x5.toNat:Int)≤122)))) && (decide (0 < (i2:Int)))) && !((decide (48≤(x5.toNat:Int))) && (decide ((x5.toNat:Int)≤57))))) hc) rfl) ?_
  refine z5w rfl rfl (fun hc=>z4q (cnd (c:=((!((decide (97≤(x5.toNat:Int))) && (decide ((x5.toNat:Int)≤122)))) && (decide (0 < (i2:Int))))) hc) rfl (fun hb=>(cnd (c:=(((!((decide (97≤(x5.toNat:Int))) && (decide ((x5.toNat:Int)≤122)))) && (decide (0 < (i2:Int)))) && !((decide (48≤(x5.toNat:Int))) && (decide ((x5.toNat:Int)≤57))))) (andI hc (notI hb))))) ?_
  refine z5w rfl rfl (fun hc=>z0h (.dat _) (cnd (c:=((!((decide (97≤(x5.toNat:Int))) && (decide ((x5.toNat:Int)≤122)))) && (decide (0 < (i2:Int))))) hc)) ?_
  refine y1x rfl rfl (fun hc=>z0h (.dat _) rfl) ?_
  refine y1x rfl rfl (fun hc=>z10 (cnd (c:=(((!((decide (97≤(x5.toNat:Int))) && (decide ((x5.toNat:Int)≤122)))) && (decide (0 < (i2:Int)))) && !(((decide (48≤(x5.toNat:Int))) && (decide ((x5.toNat:Int)≤57))) || (decide ((x5.toNat:Int)=45))))) hc) rfl) ?_
  refine z5w rfl rfl (fun hc=>z4q (cnd (c:=((!((decide (97≤(x5.toNat:Int))) && (decide ((x5.toNat:Int)≤122)))) && (decide (0 < (i2:Int))))) hc) rfl (fun hb=>(cnd (c:=(((!((decide (97≤(x5.toNat:Int))) && (decide ((x5.toNat:Int)≤122)))) && (decide (0 < (i2:Int)))) && !(((decide (48≤(x5.toNat:Int))) && (decide ((x5.toNat:Int)≤57))) || (decide ((x5.toNat:Int)=45))))) (andI hc (notI hb))))) ?_
  refine z43 rfl rfl (fun hc=>z1w (cnd (c:=(!((decide (97≤(x5.toNat:Int))) && (decide ((x5.toNat:Int)≤122))))) hc) (fun hb=>(cnd (c:=((!((decide (97≤(x5.toNat:Int))) && (decide ((x5.toNat:Int)≤122)))) && (decide (0 < (i2:Int))))) (andI hc hb))) rfl) ?_
  refine z0a (z4q rfl rfl (fun hb=>(cnd (c:=(!((decide (97≤(x5.toNat:Int))) && (decide ((x5.toNat:Int)≤122))))) (notI hb)))) ?_
  refine z0a (z4x rfl) ?_
  refine z0i _ rfl (fun h8 => ?_) (fun h8 => ?_)
  ·replace H:=ift h8 H
   refine z0c ?_
   refine z0b hN rfl ?_
   refine qe rfl ?_
   refine z0q ?_
   replace H:=retl H hq3
   cases H
   exact ⟨trivial,.inl rfl,trivial⟩
  ·replace H:=iff_ h8 H
   refine z0l ?_
   refine z0b hN rfl ?_
   refine qd rfl ?_
   refine z0a (z6q rfl rfl (by omega)) ?_
   refine qe rfl ?_
   exact ⟨_,z9j H,⟨rfl,rfl,trivial⟩,trivial⟩
theorem y2j (l1:(List Bs)) (r:(Int)) (H:z6s l1=some r):Fn Tryz.prog 38 [vlst (List.map z0j l1)] (z2f [vint r]):=by
 refine ⟨by kernel_rfl,z2a (us:=[vint r]) Tryz.func38 rfl rfl rfl rfl fun X hN => ?_⟩
 unfold z6s at H
 refine z0c ?_
 refine z0b hN rfl ?_
 refine qe rfl ?_
 refine z0c ?_
 refine z0c ?_
 refine z0b hN rfl ?_
 refine qd rfl ?_
 refine z0a (z6g z6n rfl) ?_
 refine qd rfl ?_
 refine z01 ?_
 obtain ⟨h4,H⟩:=gif H
 refine z64 (fun (k2:Nat) (s:Unit)=>[(0,.dat (vlst (List.map z0j l1))),(5,.dat (vlst (List.map z0j l1))),(6,.dat (vint (l1.length:Int))),(7,.dat (vint (k2:Int)))]) (fun (k2:Nat) (s:Unit)=>[]) () H ⟨rfl,rfl,rfl,rfl,trivial⟩ trivial (fun _ _=>rfl) ?_ ?_
 ·rintro ⟨⟩ H
  replace H:z8i=some r:=H
  unfold z8i at H
  refine z0c ?_
  refine z0b hN rfl ?_
  refine z0a (z1i rfl rfl) ?_
  refine z0c ?_
  refine z0i _ rfl (fun h=>(lt_t h).elim) (fun h => ?_)
  refine z34 ?_
  refine z0c ?_
  refine z0b hN rfl ?_
  refine qe rfl ?_
  refine z0q ?_
  cases H
  exact ⟨trivial,.inl rfl,trivial⟩
 ·rintro k2 x5 ⟨⟩ q3 h6 h7 H hq3
  replace H:z7e l1 k2 x5=some q3:=H
  unfold z7e at H
  refine z0c ?_
  refine z0b hN rfl ?_
  refine z0a (z1i rfl rfl) ?_
  refine z0c ?_
  refine z0i _ rfl (fun h => ?_) (fun h=>(lt_f h6 h).elim)
  refine z0l ?_
  refine z0c ?_
  refine z01 ?_
  refine z0c ?_
  refine z0b hN rfl ?_
  refine qd rfl ?_
  refine z0a (z93 z7t (fun _=>rfl) rfl rfl h7) ?_
  refine z0a (z1b tyS9 rfl (z5q h7) rfl) ?_
  refine qe rfl ?_
  refine qe rfl ?_
  refine z0c ?_
  refine z0c ?_
  refine z0b hN rfl ?_
  refine qd rfl ?_
  obtain ⟨r8,h9,H⟩:=bnd H
  refine z0a (z0s (z8p x5 r8 h9) ⟨.inl rfl,trivial⟩) ?_
  refine z0a (z4x rfl) ?_
  refine z0i _ rfl (fun h10 => ?_) (fun h10 => ?_)
  ·replace H:=ift h10 H
   refine z0c ?_
   refine z0b hN rfl ?_
   refine qe rfl ?_
   refine z0q ?_
   replace H:=retl H hq3
   cases H
   exact ⟨trivial,.inl rfl,trivial⟩
  ·replace H:=iff_ h10 H
   refine z0l ?_
   refine z0z (ι:=Bool) (fun i=>[(0,.dat (vlst (List.map z0j l1))),(5,.dat (vlst (List.map z0j l1))),(6,.dat (vint (l1.length:Int))),(7,.dat (vint (k2:Int))),(25,.dat (z02 i))]) (fun i=>[]) (fun i=>z4t i=some q3) (fun i=>rfl) ?_ ?_
   ·skip
    refine z0b hN rfl ?_
    refine qd rfl ?_
    refine z0a (z4y rfl rfl) ?_
    refine qd rfl ?_
    refine z04 (j:=2) rfl rfl (fun h11 => ?_) (fun h11 => ?_) rfl
    ·have h12:=un1 h11
     replace H:=ift h12 H
     refine z0m rfl rfl h11 (z0h (.dat _) rfl) ?_
     refine z0m rfl rfl h11 (z0h (.dat _) rfl) ?_
     refine z0m rfl rfl h11 (z0h (.dat _) rfl) ?_
     refine z0m rfl rfl h11 (y91 rfl rfl (by omega)) ?_
     obtain ⟨x13,h14,H⟩:=bnd H
     refine z0m rfl rfl h11 (y1w z7t (fun _=>rfl) rfl rfl h14) ?_
     refine z0m rfl rfl h11 (z1b tyS9 rfl (z5q (z8l h14).2) rfl) ?_
     refine z0m rfl rfl h11 (y7y rfl rfl) ?_
     refine z0a (z0t rfl (bTT h12) rfl) ?_
     exact ⟨(Op.bytesLess x5 x13 || x5 == x13),H,⟨rfl,rfl,rfl,rfl,rfl,trivial⟩,trivial⟩
    ·have h15:=un2 h11
     replace H:=iff_ h15 H
     refine z0e rfl rfl h11 ?_
     refine z0e rfl rfl h11 ?_
     refine z0e rfl rfl h11 ?_
     refine z0e rfl rfl h11 ?_
     refine z0e rfl rfl h11 ?_
     refine z0e rfl rfl h11 ?_
     refine z0e rfl rfl h11 ?_
     refine z0a (z0o rfl (bFF h15) rfl) ?_
     exact ⟨false,H,⟨rfl,rfl,rfl,rfl,rfl,trivial⟩,trivial⟩
   ·rintro v16 H
    replace H:z4t v16=some q3:=H
    unfold z4t at H
    refine z0i _ rfl (fun h17 => ?_) (fun h17 => ?_)
    ·replace H:=ift h17 H
     refine z0c ?_
     refine z0b hN rfl ?_
     refine qe rfl ?_
     refine z0q ?_
     replace H:=retl H hq3
     cases H
     exact ⟨trivial,.inl rfl,trivial⟩
    ·replace H:=iff_ h17 H
     refine z0l ?_
     refine z0b hN rfl ?_
     refine z0a (z6q rfl rfl (by omega)) ?_
     refine qd rfl ?_
     exact ⟨_,z9j H,⟨rfl,rfl,rfl,rfl,trivial⟩,trivial⟩
theorem y2w (s sep:Bs) (r:List Bs) (H:z2q s sep=some r):FnG Tryz.prog 31 [.dat (vstr s),.dat (vstr sep)] [] (.row 900 r.length) [(900,.row 9 1 (List.map z0j r))]:=by
 obtain ⟨h1,h2,rfl⟩:=y88 H
 have hlen:=Lib.splitB_all ⟨sep.toArray⟩ (by simpa [ByteArray.size] using h2) 0 _ ⟨s.toArray⟩ rfl
 have hle:=Lib.countB_le ⟨sep.toArray⟩ (by simpa [ByteArray.size] using h2) _ ⟨s.toArray⟩ (Nat.le_refl _)
 refine x36 (args:=[vstr s,vstr sep]) (y1j s sep) (by kernel_rfl) (fun M w vs hM hvs => ?_) ?_
 ·have hv:=z92 (us:=[.string ⟨s.toArray⟩,.string ⟨sep.toArray⟩]) hvs
  subst hv
  obtain ⟨m,hm⟩:=y1m hM
  refine (Tryz.strings_Split ⟨s.toArray⟩ ⟨sep.toArray⟩ m w (by simp [ByteArray.size]; omega) hm (by simpa [ByteArray.size] using h2)).mono ?_
  rintro e w' ⟨rfl,rfl⟩
  have e1:(y1j s sep).length=Lib.countB ⟨s.toArray⟩ ⟨sep.toArray⟩+1:=by unfold y1j; rw [List.length_map,hlen]
  have e2:((y1j s sep).map fun s=>Value.string ⟨s.toArray⟩)=(Lib.splitB ⟨sep.toArray⟩ 0 (Lib.countB ⟨s.toArray⟩ ⟨sep.toArray⟩) ⟨s.toArray⟩).map Value.string:=by
   unfold y1j
   rw [List.map_map]
   exact List.map_congr_left fun b _=>by simp
  rw [e1,e2]
  exact ⟨rfl,rfl⟩
 ·unfold y1j maxLen
  rw [List.length_map,hlen]
  have hsz:(ByteArray.mk s.toArray).size=s.length:=by simp [ByteArray.size]
  rw [hsz] at hle
  omega
theorem z7m (s sep:Bs) (r:List Bs) (H:z2q s sep=some r):Fn Tryz.prog 31 [vstr s,vstr sep] (z2f [vlst (List.map z0j r)]):=by
 have h:=y2w s sep r H
 rw [← List.length_map (f:=z0j)] at h
 exact x1d h
theorem y3t (s1:Bs) (r:(Bool)) (H:z7k s1=some r):Fn Tryz.prog 63 [vstr s1] (z2f [z02 r]):=by
 refine ⟨by kernel_rfl,z2a (us:=[z02 r]) Tryz.func63 rfl rfl rfl rfl fun X hN => ?_⟩
 unfold z7k at H
 refine z0c ?_
 refine z0b hN rfl ?_
 refine qe rfl ?_
 refine z0c ?_
 refine z0b hN rfl ?_
 refine qd rfl ?_
 obtain ⟨r2,h3,H⟩:=bnd H
 refine z0a (z0s (z7m s1 [58] r2 h3) ⟨.inl rfl,.inl rfl,trivial⟩) ?_
 refine qe rfl ?_
 refine z0c ?_
 refine z0c ?_
 refine z0b hN rfl ?_
 refine qd rfl ?_
 refine z0a (z6g z6n rfl) ?_
 refine qd rfl ?_
 refine z01 ?_
 obtain ⟨h6,H⟩:=gif H
 refine z64 (fun (k4:Nat) (s:Unit)=>[(3,.dat (vlst (List.map z0j r2))),(8,.dat (vlst (List.map z0j r2))),(9,.dat (vint (r2.length:Int))),(10,.dat (vint (k4:Int)))]) (fun (k4:Nat) (s:Unit)=>[]) () H ⟨rfl,rfl,rfl,rfl,trivial⟩ trivial (fun _ _=>rfl) ?_ ?_
 ·rintro ⟨⟩ H
  replace H:z86 r2=some r:=H
  unfold z86 at H
  refine z0c ?_
  refine z0b hN rfl ?_
  refine z0a (z1i rfl rfl) ?_
  refine z0c ?_
  refine z0i _ rfl (fun h=>(lt_t h).elim) (fun h => ?_)
  refine z34 ?_
  refine z0c ?_
  refine z0b hN rfl ?_
  refine qd rfl ?_
  refine z0a (z6g z6n rfl) ?_
  refine z0a (z6z rfl rfl) ?_
  refine qe rfl ?_
  refine z0q ?_
  cases H
  exact ⟨trivial,.inl rfl,trivial⟩
 ·rintro k4 x7 ⟨⟩ q5 h8 h9 H hq5
  replace H:z74 r2 k4 x7=some q5:=H
  unfold z74 at H
  refine z0c ?_
  refine z0b hN rfl ?_
  refine z0a (z1i rfl rfl) ?_
  refine z0c ?_
  refine z0i _ rfl (fun h => ?_) (fun h=>(lt_f h8 h).elim)
  refine z0l ?_
  refine z0c ?_
  refine z01 ?_
  refine z0c ?_
  refine z0b hN rfl ?_
  refine qd rfl ?_
  refine z0a (z93 z7t (fun _=>rfl) rfl rfl h9) ?_
  refine z0a (z1b tyS9 rfl (z5q h9) rfl) ?_
  refine qe rfl ?_
  refine qe rfl ?_
  refine z0c ?_
  refine z0b hN rfl ?_
  refine qd rfl ?_
  obtain ⟨r10,h11,H⟩:=bnd H
  refine z0a (z0s (z8p x7 r10 h11) ⟨.inl rfl,trivial⟩) ?_
  refine z0a (z4x rfl) ?_
  refine qd rfl ?_
  refine z4w rfl rfl (fun hc=>z0h (.dat _) rfl) ?_
  refine z4w rfl rfl (fun hc=>z56 (cnd (c:=(!r10)) hc) rfl) ?_
  refine z4w rfl rfl (fun hc=>z0h (.dat _) (cnd (c:=(!r10)) hc)) ?_
  refine z5w rfl rfl (fun hc=>z0h (.dat _) rfl) ?_
  refine z5w rfl rfl (fun hc=>z0h (.dat _) rfl) ?_
  refine z5w rfl rfl (fun hc=>z6g z6n (cnd (c:=((!r10) && (decide (x7=[42])))) hc)) ?_
  refine z5w rfl rfl (fun hc=>z1l _ (cnd (c:=((!r10) && (decide (x7=[42])))) hc) rfl (.inr (.inl ⟨rfl,rfl⟩))) ?_
  refine z5w rfl rfl (fun hc=>z10 (cnd (c:=((!r10) && (decide (x7=[42])))) hc) (cnd (c:=((!r10) && (decide (x7=[42])))) hc)) ?_
  refine z4w rfl rfl (fun hc=>z1w (cnd (c:=(!r10)) hc) (fun hb=>(cnd (c:=((!r10) && (decide (x7=[42])))) (andI hc hb))) rfl) ?_
  refine z4w rfl rfl (fun hc=>z4x (cnd (c:=(!r10)) hc)) ?_
  refine z0a (z1w rfl (fun hb=>(cnd (c:=(!r10)) hb)) rfl) ?_
  refine z0i _ rfl (fun h12 => ?_) (fun h12 => ?_)
  ·replace H:=ift h12 H
   refine z0c ?_
   refine z0b hN rfl ?_
   refine qe rfl ?_
   refine z0q ?_
   replace H:=retl H hq5
   cases H
   exact ⟨trivial,.inl rfl,trivial⟩
  ·replace H:=iff_ h12 H
   refine z0l ?_
   refine z0b hN rfl ?_
   refine z0a (z6q rfl rfl (by omega)) ?_
   refine qd rfl ?_
   exact ⟨_,z9j H,⟨rfl,rfl,rfl,rfl,trivial⟩,trivial⟩
theorem y1o (l1:(List Bs)) (r:(Int)) (H:z5z l1=some r):Fn Tryz.prog 39 [vlst (List.map z0j l1)] (z2f [vint r]):=by
 refine ⟨by kernel_rfl,z2a (us:=[vint r]) Tryz.func39 rfl rfl rfl rfl fun X hN => ?_⟩
 unfold z5z at H
 refine z0c ?_
 refine z0b hN rfl ?_
 refine qe rfl ?_
 refine z0c ?_
 refine z0c ?_
 refine z0b hN rfl ?_
 refine qd rfl ?_
 refine z0a (z6g z6n rfl) ?_
 refine z0a (z4y rfl rfl) ?_
 refine z0i _ rfl (fun h2 => ?_) (fun h2 => ?_)
 ·replace H:=ift h2 H
  refine z0c ?_
  refine z0b hN rfl ?_
  refine qe rfl ?_
  refine z0q ?_
  cases H
  exact ⟨trivial,.inl rfl,trivial⟩
 ·replace H:=iff_ h2 H
  refine z0l ?_
  refine z0c ?_
  refine z0c ?_
  refine z0b hN rfl ?_
  refine qd rfl ?_
  refine z0a (z6g z6n rfl) ?_
  refine qd rfl ?_
  refine z01 ?_
  obtain ⟨h5,H⟩:=gif H
  refine z64 (fun (k3:Nat) (s:Unit)=>[(8,.dat (vlst (List.map z0j l1))),(9,.dat (vint (l1.length:Int))),(10,.dat (vint (k3:Int)))]) (fun (k3:Nat) (s:Unit)=>[]) () H ⟨rfl,rfl,rfl,trivial⟩ trivial (fun _ _=>rfl) ?_ ?_
  ·rintro ⟨⟩ H
   replace H:z7u=some r:=H
   unfold z7u at H
   refine z0c ?_
   refine z0b hN rfl ?_
   refine z0a (z1i rfl rfl) ?_
   refine z0c ?_
   refine z0i _ rfl (fun h=>(lt_t h).elim) (fun h => ?_)
   refine z34 ?_
   refine z0c ?_
   refine z0b hN rfl ?_
   refine qe rfl ?_
   refine z0q ?_
   cases H
   exact ⟨trivial,.inl rfl,trivial⟩
  ·rintro k3 x6 ⟨⟩ q4 h7 h8 H hq4
   replace H:z6l k3 x6=some q4:=H
   unfold z6l at H
   refine z0c ?_
   refine z0b hN rfl ?_
   refine z0a (z1i rfl rfl) ?_
   refine z0c ?_
   refine z0i _ rfl (fun h => ?_) (fun h=>(lt_f h7 h).elim)
   refine z0l ?_
   refine z0c ?_
   refine z01 ?_
   refine z0c ?_
   refine z0b hN rfl ?_
   refine z0a (z93 z7t (fun _=>rfl) rfl rfl h8) ?_
   refine z0a (z1b tyS9 rfl (z5q h8) rfl) ?_
   refine qe rfl ?_
   refine z0c ?_
   refine z0b hN rfl ?_
   refine qd rfl ?_
   obtain ⟨r9,h10,H⟩:=bnd H
   refine z0a (z0s (y3t x6 r9 h10) ⟨.inl rfl,trivial⟩) ?_
   refine z0a (z4x rfl) ?_
   refine z0i _ rfl (fun h11 => ?_) (fun h11 => ?_)
   ·replace H:=ift h11 H
    refine z0c ?_
    refine z0b hN rfl ?_
    refine qe rfl ?_
    refine z0q ?_
    replace H:=retl H hq4
    cases H
    exact ⟨trivial,.inl rfl,trivial⟩
   ·replace H:=iff_ h11 H
    refine z0l ?_
    refine z0b hN rfl ?_
    refine z0a (z6q rfl rfl (by omega)) ?_
    refine qd rfl ?_
    exact ⟨_,z9j H,⟨rfl,rfl,rfl,trivial⟩,trivial⟩
end Go.Proofs.YtihjlkocfeoelaaGreatDoor
