/- Walks along the models. Printed by a program. -/
import Derived.Test.YtkckjgkfljgjpaaGreatDoorZgw1
namespace Go.Proofs.YtkckjgkfljgjpaaGreatDoor
open Go.RowKit
set_option linter.unusedVariables false
set_option maxRecDepth 100000
set_option maxHeartbeats 2000000
theorem y3x (l1:(List z0g)) (r:(Int)) (H:z7j l1=some r):Fn Tryz.prog 24 [vlst (List.map z00 l1)] (z1s [vint r]):=by
 refine ⟨by kernel_rfl,z1g (us:=[vint r]) Tryz.func24 rfl rfl rfl rfl fun X hN => ?_⟩
 unfold z7j at H
 refine z0c ?_
 refine z0b hN rfl ?_
 refine qe rfl ?_
 refine z0c ?_
 refine z0c ?_
 refine z0b hN rfl ?_
 refine qd rfl ?_
 refine z0a (z8d x2t rfl) ?_
 refine z0a (z29 rfl rfl) ?_
 refine z0j _ rfl (fun h2 => ?_) (fun h2 => ?_)
 ·replace H:=ift h2 H
  refine z0c ?_
  refine z0b hN rfl ?_
  refine qe rfl ?_
  refine z0m ?_
  cases H
  exact ⟨trivial,.inl rfl,trivial⟩
 ·replace H:=iff_ h2 H
  refine z0l ?_
  refine z0c ?_
  refine z0c ?_
  refine z0b hN rfl ?_
  refine qd rfl ?_
  refine z0a (z8d x2t rfl) ?_
  refine qd rfl ?_
  refine z0u ?_
  obtain ⟨h5,H⟩:=gif H
  refine z6c (fun (k3:Nat) (s:Unit)=>[(0,.dat (vlst (List.map z00 l1))),(9,.dat (vint (l1.length:Int))),(10,.dat (vint (k3:Int)))]) (fun (k3:Nat) (s:Unit)=>[]) () H ⟨rfl,rfl,rfl,trivial⟩ trivial (fun _ _=>rfl) ?_ ?_
  ·rintro ⟨⟩ H
   replace H:y1m=some r:=H
   unfold y1m at H
   refine z0c ?_
   refine z0b hN rfl ?_
   refine z0a (z04 rfl rfl) ?_
   refine z0c ?_
   refine z0j _ rfl (fun h=>(lt_t h).elim) (fun h => ?_)
   refine z14 ?_
   refine z0c ?_
   refine z0b hN rfl ?_
   refine qe rfl ?_
   refine z0m ?_
   cases H
   exact ⟨trivial,.inl rfl,trivial⟩
  ·rintro k3 x6 ⟨⟩ q4 h7 h8 H hq4
   replace H:z9z l1 k3 x6=some q4:=H
   unfold z9z at H
   refine z0c ?_
   refine z0b hN rfl ?_
   refine z0a (z04 rfl rfl) ?_
   refine z0c ?_
   refine z0j _ rfl (fun h => ?_) (fun h=>(lt_f h7 h).elim)
   refine z0l ?_
   refine z0c ?_
   refine z0u ?_
   refine z0c ?_
   refine z0b hN rfl ?_
   refine qd rfl ?_
   refine qe rfl ?_
   refine z0c ?_
   refine z0b hN rfl ?_
   refine qd rfl ?_
   refine qd rfl ?_
   obtain ⟨r9,h10,H⟩:=bnd H
   refine z0a (z0o (y67 l1 (k3:Int) r9 h10) ⟨.inl rfl,.inl rfl,trivial⟩) ?_
   refine qe rfl ?_
   refine z0c ?_
   refine z0b hN rfl ?_
   refine qd rfl ?_
   refine z0a (z68 rfl rfl) ?_
   refine z0j _ rfl (fun h11 => ?_) (fun h11 => ?_)
   ·replace H:=ift h11 H
    refine z0c ?_
    refine z0b hN rfl ?_
    refine qd rfl ?_
    refine qe rfl ?_
    refine z0m ?_
    replace H:=retl H hq4
    cases H
    exact ⟨trivial,.inl rfl,trivial⟩
   ·replace H:=iff_ h11 H
    refine z0l ?_
    refine z0b hN rfl ?_
    refine z0a (z5w rfl rfl (by omega)) ?_
    refine qd rfl ?_
    exact ⟨_,z9s H,⟨rfl,rfl,rfl,trivial⟩,trivial⟩
theorem y78 (l1:(List Bs)) (r:(Int)) (H:y0j l1=some r):Fn Tryz.prog 99 [vlst (List.map z0n l1)] (z1s [vint r]):=by
 refine ⟨by kernel_rfl,z1g (us:=[vint r]) Tryz.func99 rfl rfl rfl rfl fun X hN => ?_⟩
 unfold y0j at H
 refine z0c ?_
 refine z0b hN rfl ?_
 refine qe rfl ?_
 refine z0c ?_
 refine z0c ?_
 refine z0b hN rfl ?_
 refine qd rfl ?_
 refine z0a (z8d z9v rfl) ?_
 refine qd rfl ?_
 refine z0u ?_
 obtain ⟨h4,H⟩:=gif H
 refine z6c (fun (k2:Nat) (s:Unit)=>[(0,.dat (vlst (List.map z0n l1))),(5,.dat (vlst (List.map z0n l1))),(6,.dat (vint (l1.length:Int))),(7,.dat (vint (k2:Int)))]) (fun (k2:Nat) (s:Unit)=>[]) () H ⟨rfl,rfl,rfl,rfl,trivial⟩ trivial (fun _ _=>rfl) ?_ ?_
 ·rintro ⟨⟩ H
  replace H:y2w=some r:=H
  unfold y2w at H
  refine z0c ?_
  refine z0b hN rfl ?_
  refine z0a (z04 rfl rfl) ?_
  refine z0c ?_
  refine z0j _ rfl (fun h=>(lt_t h).elim) (fun h => ?_)
  refine z14 ?_
  refine z0c ?_
  refine z0b hN rfl ?_
  refine qe rfl ?_
  refine z0m ?_
  cases H
  exact ⟨trivial,.inl rfl,trivial⟩
 ·rintro k2 x5 ⟨⟩ q3 h6 h7 H hq3
  replace H:y1a l1 k2 x5=some q3:=H
  unfold y1a at H
  refine z0c ?_
  refine z0b hN rfl ?_
  refine z0a (z04 rfl rfl) ?_
  refine z0c ?_
  refine z0j _ rfl (fun h => ?_) (fun h=>(lt_f h6 h).elim)
  refine z0l ?_
  refine z0c ?_
  refine z0u ?_
  refine z0c ?_
  refine z0b hN rfl ?_
  refine qd rfl ?_
  refine z0a (y00 z88 (fun _=>rfl) rfl rfl h7) ?_
  refine z0a (z0w tyS9 rfl (z3m h7) rfl) ?_
  refine qe rfl ?_
  refine qe rfl ?_
  refine z0c ?_
  refine z0c ?_
  refine z0b hN rfl ?_
  refine qd rfl ?_
  obtain ⟨r8,h9,H⟩:=bnd H
  refine z0a (z0o (y1r x5 r8 h9) ⟨.inl rfl,trivial⟩) ?_
  refine z0a (z3t rfl) ?_
  refine z0j _ rfl (fun h10 => ?_) (fun h10 => ?_)
  ·replace H:=ift h10 H
   refine z0c ?_
   refine z0b hN rfl ?_
   refine qe rfl ?_
   refine z0m ?_
   replace H:=retl H hq3
   cases H
   exact ⟨trivial,.inl rfl,trivial⟩
  ·replace H:=iff_ h10 H
   refine z0l ?_
   refine z0z (ι:=Bool) (fun i=>[(0,.dat (vlst (List.map z0n l1))),(5,.dat (vlst (List.map z0n l1))),(6,.dat (vint (l1.length:Int))),(7,.dat (vint (k2:Int))),(25,.dat (z01 i))]) (fun i=>[]) (fun i=>z7e i=some q3) (fun i=>rfl) ?_ ?_
   ·skip
    refine z0b hN rfl ?_
    refine qd rfl ?_
    refine z0a (z29 rfl rfl) ?_
    refine qd rfl ?_
    refine z08 (j:=2) rfl rfl (fun h11 => ?_) (fun h11 => ?_) rfl
    ·have h12:=un1 h11
     replace H:=ift h12 H
     refine z0p rfl rfl h11 (z0h (.dat _) rfl) ?_
     refine z0p rfl rfl h11 (z0h (.dat _) rfl) ?_
     refine z0p rfl rfl h11 (z0h (.dat _) rfl) ?_
     refine z0p rfl rfl h11 (y9i rfl rfl (by omega)) ?_
     obtain ⟨x13,h14,H⟩:=bnd H
     refine z0p rfl rfl h11 (y23 z88 (fun _=>rfl) rfl rfl h14) ?_
     refine z0p rfl rfl h11 (z0w tyS9 rfl (z3m (z7s h14).2) rfl) ?_
     refine z0p rfl rfl h11 (x5q rfl rfl) ?_
     refine z0a (z0v rfl (bTT h12) rfl) ?_
     exact ⟨(Op.bytesLess x5 x13 || x5 == x13),H,⟨rfl,rfl,rfl,rfl,rfl,trivial⟩,trivial⟩
    ·have h15:=un2 h11
     replace H:=iff_ h15 H
     refine z0f rfl rfl h11 ?_
     refine z0f rfl rfl h11 ?_
     refine z0f rfl rfl h11 ?_
     refine z0f rfl rfl h11 ?_
     refine z0f rfl rfl h11 ?_
     refine z0f rfl rfl h11 ?_
     refine z0f rfl rfl h11 ?_
     refine z0a (z0x rfl (bFF h15) rfl) ?_
     exact ⟨false,H,⟨rfl,rfl,rfl,rfl,rfl,trivial⟩,trivial⟩
   ·rintro v16 H
    replace H:z7e v16=some q3:=H
    unfold z7e at H
    refine z0j _ rfl (fun h17 => ?_) (fun h17 => ?_)
    ·replace H:=ift h17 H
     refine z0c ?_
     refine z0b hN rfl ?_
     refine qe rfl ?_
     refine z0m ?_
     replace H:=retl H hq3
     cases H
     exact ⟨trivial,.inl rfl,trivial⟩
    ·replace H:=iff_ h17 H
     refine z0l ?_
     refine z0b hN rfl ?_
     refine z0a (z5w rfl rfl (by omega)) ?_
     refine qd rfl ?_
     exact ⟨_,z9s H,⟨rfl,rfl,rfl,rfl,trivial⟩,trivial⟩
theorem y8q (s sep:Bs) (r:List Bs) (H:z2s s sep=some r):FnG Tryz.prog 45 [.dat (vstr s),.dat (vstr sep)] [] (.row 900 r.length) [(900,.row 9 1 (List.map z0n r))]:=by
 obtain ⟨h1,h2,rfl⟩:=x66 H
 have hlen:=Lib.splitB_all ⟨sep.toArray⟩ (by simpa [ByteArray.size] using h2) 0 _ ⟨s.toArray⟩ rfl
 have hle:=Lib.countB_le ⟨sep.toArray⟩ (by simpa [ByteArray.size] using h2) _ ⟨s.toArray⟩ (Nat.le_refl _)
 refine w2a (args:=[vstr s,vstr sep]) (y6v s sep) (by kernel_rfl) (fun M w vs hM hvs => ?_) ?_
 ·have hv:=y3w (us:=[.string ⟨s.toArray⟩,.string ⟨sep.toArray⟩]) hvs
  subst hv
  obtain ⟨m,hm⟩:=y66 hM
  refine (Tryz.strings_Split ⟨s.toArray⟩ ⟨sep.toArray⟩ m w (by simp [ByteArray.size]; omega) hm (by simpa [ByteArray.size] using h2)).mono ?_
  rintro e w' ⟨rfl,rfl⟩
  have e1:(y6v s sep).length=Lib.countB ⟨s.toArray⟩ ⟨sep.toArray⟩+1:=by unfold y6v; rw [List.length_map,hlen]
  have e2:((y6v s sep).map fun s=>Value.string ⟨s.toArray⟩)=(Lib.splitB ⟨sep.toArray⟩ 0 (Lib.countB ⟨s.toArray⟩ ⟨sep.toArray⟩) ⟨s.toArray⟩).map Value.string:=by
   unfold y6v
   rw [List.map_map]
   exact List.map_congr_left fun b _=>by simp
  rw [e1,e2]
  exact ⟨rfl,rfl⟩
 ·unfold y6v maxLen
  rw [List.length_map,hlen]
  have hsz:(ByteArray.mk s.toArray).size=s.length:=by simp [ByteArray.size]
  rw [hsz] at hle
  omega
theorem z9p (s sep:Bs) (r:List Bs) (H:z2s s sep=some r):Fn Tryz.prog 45 [vstr s,vstr sep] (z1s [vlst (List.map z0n r)]):=by
 have h:=y8q s sep r H
 rw [← List.length_map (f:=z0n)] at h
 exact x9o h
theorem y94 (s1:Bs) (r:(Bool)) (H:y1p s1=some r):Fn Tryz.prog 127 [vstr s1] (z1s [z01 r]):=by
 refine ⟨by kernel_rfl,z1g (us:=[z01 r]) Tryz.func127 rfl rfl rfl rfl fun X hN => ?_⟩
 unfold y1p at H
 refine z0c ?_
 refine z0b hN rfl ?_
 refine qe rfl ?_
 refine z0c ?_
 refine z0b hN rfl ?_
 refine qd rfl ?_
 obtain ⟨r2,h3,H⟩:=bnd H
 refine z0a (z0o (z9p s1 [58] r2 h3) ⟨.inl rfl,.inl rfl,trivial⟩) ?_
 refine qe rfl ?_
 refine z0c ?_
 refine z0c ?_
 refine z0b hN rfl ?_
 refine qd rfl ?_
 refine z0a (z8d z9v rfl) ?_
 refine qd rfl ?_
 refine z0u ?_
 obtain ⟨h6,H⟩:=gif H
 refine z6c (fun (k4:Nat) (s:Unit)=>[(3,.dat (vlst (List.map z0n r2))),(8,.dat (vlst (List.map z0n r2))),(9,.dat (vint (r2.length:Int))),(10,.dat (vint (k4:Int)))]) (fun (k4:Nat) (s:Unit)=>[]) () H ⟨rfl,rfl,rfl,rfl,trivial⟩ trivial (fun _ _=>rfl) ?_ ?_
 ·rintro ⟨⟩ H
  replace H:y3q r2=some r:=H
  unfold y3q at H
  refine z0c ?_
  refine z0b hN rfl ?_
  refine z0a (z04 rfl rfl) ?_
  refine z0c ?_
  refine z0j _ rfl (fun h=>(lt_t h).elim) (fun h => ?_)
  refine z14 ?_
  refine z0c ?_
  refine z0b hN rfl ?_
  refine qd rfl ?_
  refine z0a (z8d z9v rfl) ?_
  refine z0a (z9i rfl rfl) ?_
  refine qe rfl ?_
  refine z0m ?_
  cases H
  exact ⟨trivial,.inl rfl,trivial⟩
 ·rintro k4 x7 ⟨⟩ q5 h8 h9 H hq5
  replace H:y2c r2 k4 x7=some q5:=H
  unfold y2c at H
  refine z0c ?_
  refine z0b hN rfl ?_
  refine z0a (z04 rfl rfl) ?_
  refine z0c ?_
  refine z0j _ rfl (fun h => ?_) (fun h=>(lt_f h8 h).elim)
  refine z0l ?_
  refine z0c ?_
  refine z0u ?_
  refine z0c ?_
  refine z0b hN rfl ?_
  refine qd rfl ?_
  refine z0a (y00 z88 (fun _=>rfl) rfl rfl h9) ?_
  refine z0a (z0w tyS9 rfl (z3m h9) rfl) ?_
  refine qe rfl ?_
  refine qe rfl ?_
  refine z0c ?_
  refine z0b hN rfl ?_
  refine qd rfl ?_
  obtain ⟨r10,h11,H⟩:=bnd H
  refine z0a (z0o (y1r x7 r10 h11) ⟨.inl rfl,trivial⟩) ?_
  refine z0a (z3t rfl) ?_
  refine qd rfl ?_
  refine z5y rfl rfl (fun hc=>z0h (.dat _) rfl) ?_
  refine z5y rfl rfl (fun hc=>z65 (cnd (c:=(!r10)) hc) rfl) ?_
  refine z5y rfl rfl (fun hc=>z0h (.dat _) (cnd (c:=(!r10)) hc)) ?_
  refine z86 rfl rfl (fun hc=>z0h (.dat _) rfl) ?_
  refine z86 rfl rfl (fun hc=>z0h (.dat _) rfl) ?_
  refine z86 rfl rfl (fun hc=>z8d z9v (cnd (c:=((!r10) && (decide (x7=[42])))) hc)) ?_
  refine z86 rfl rfl (fun hc=>z1a _ (cnd (c:=((!r10) && (decide (x7=[42])))) hc) rfl (.inr (.inl ⟨rfl,rfl⟩))) ?_
  refine z86 rfl rfl (fun hc=>z2a (cnd (c:=((!r10) && (decide (x7=[42])))) hc) (cnd (c:=((!r10) && (decide (x7=[42])))) hc)) ?_
  refine z5y rfl rfl (fun hc=>z11 (cnd (c:=(!r10)) hc) (fun hb=>(cnd (c:=((!r10) && (decide (x7=[42])))) (andI hc hb))) rfl) ?_
  refine z5y rfl rfl (fun hc=>z3t (cnd (c:=(!r10)) hc)) ?_
  refine z0a (z11 rfl (fun hb=>(cnd (c:=(!r10)) hb)) rfl) ?_
  refine z0j _ rfl (fun h12 => ?_) (fun h12 => ?_)
  ·replace H:=ift h12 H
   refine z0c ?_
   refine z0b hN rfl ?_
   refine qe rfl ?_
   refine z0m ?_
   replace H:=retl H hq5
   cases H
   exact ⟨trivial,.inl rfl,trivial⟩
  ·replace H:=iff_ h12 H
   refine z0l ?_
   refine z0b hN rfl ?_
   refine z0a (z5w rfl rfl (by omega)) ?_
   refine qd rfl ?_
   exact ⟨_,z9s H,⟨rfl,rfl,rfl,rfl,trivial⟩,trivial⟩
theorem y69 (l1:(List Bs)) (r:(Int)) (H:z9n l1=some r):Fn Tryz.prog 100 [vlst (List.map z0n l1)] (z1s [vint r]):=by
 refine ⟨by kernel_rfl,z1g (us:=[vint r]) Tryz.func100 rfl rfl rfl rfl fun X hN => ?_⟩
 unfold z9n at H
 refine z0c ?_
 refine z0b hN rfl ?_
 refine qe rfl ?_
 refine z0c ?_
 refine z0c ?_
 refine z0b hN rfl ?_
 refine qd rfl ?_
 refine z0a (z8d z9v rfl) ?_
 refine z0a (z29 rfl rfl) ?_
 refine z0j _ rfl (fun h2 => ?_) (fun h2 => ?_)
 ·replace H:=ift h2 H
  refine z0c ?_
  refine z0b hN rfl ?_
  refine qe rfl ?_
  refine z0m ?_
  cases H
  exact ⟨trivial,.inl rfl,trivial⟩
 ·replace H:=iff_ h2 H
  refine z0l ?_
  refine z0c ?_
  refine z0c ?_
  refine z0b hN rfl ?_
  refine qd rfl ?_
  refine z0a (z8d z9v rfl) ?_
  refine qd rfl ?_
  refine z0u ?_
  obtain ⟨h5,H⟩:=gif H
  refine z6c (fun (k3:Nat) (s:Unit)=>[(8,.dat (vlst (List.map z0n l1))),(9,.dat (vint (l1.length:Int))),(10,.dat (vint (k3:Int)))]) (fun (k3:Nat) (s:Unit)=>[]) () H ⟨rfl,rfl,rfl,trivial⟩ trivial (fun _ _=>rfl) ?_ ?_
  ·rintro ⟨⟩ H
   replace H:y11=some r:=H
   unfold y11 at H
   refine z0c ?_
   refine z0b hN rfl ?_
   refine z0a (z04 rfl rfl) ?_
   refine z0c ?_
   refine z0j _ rfl (fun h=>(lt_t h).elim) (fun h => ?_)
   refine z14 ?_
   refine z0c ?_
   refine z0b hN rfl ?_
   refine qe rfl ?_
   refine z0m ?_
   cases H
   exact ⟨trivial,.inl rfl,trivial⟩
  ·rintro k3 x6 ⟨⟩ q4 h7 h8 H hq4
   replace H:y0d k3 x6=some q4:=H
   unfold y0d at H
   refine z0c ?_
   refine z0b hN rfl ?_
   refine z0a (z04 rfl rfl) ?_
   refine z0c ?_
   refine z0j _ rfl (fun h => ?_) (fun h=>(lt_f h7 h).elim)
   refine z0l ?_
   refine z0c ?_
   refine z0u ?_
   refine z0c ?_
   refine z0b hN rfl ?_
   refine z0a (y00 z88 (fun _=>rfl) rfl rfl h8) ?_
   refine z0a (z0w tyS9 rfl (z3m h8) rfl) ?_
   refine qe rfl ?_
   refine z0c ?_
   refine z0b hN rfl ?_
   refine qd rfl ?_
   obtain ⟨r9,h10,H⟩:=bnd H
   refine z0a (z0o (y94 x6 r9 h10) ⟨.inl rfl,trivial⟩) ?_
   refine z0a (z3t rfl) ?_
   refine z0j _ rfl (fun h11 => ?_) (fun h11 => ?_)
   ·replace H:=ift h11 H
    refine z0c ?_
    refine z0b hN rfl ?_
    refine qe rfl ?_
    refine z0m ?_
    replace H:=retl H hq4
    cases H
    exact ⟨trivial,.inl rfl,trivial⟩
   ·replace H:=iff_ h11 H
    refine z0l ?_
    refine z0b hN rfl ?_
    refine z0a (z5w rfl rfl (by omega)) ?_
    refine qd rfl ?_
    exact ⟨_,z9s H,⟨rfl,rfl,rfl,trivial⟩,trivial⟩
theorem z99 (l r:List Bs) (H:z97 l=some r):FnG Tryz.prog 130 [.dat (vlst (List.map z0n l))] [] (.row 900 r.length) [(900,.row 9 1 (List.map z0n r))]:=by
 obtain ⟨hl,rfl⟩:=x7t H
 refine x6k (by kernel_rfl) Tryz.func130 rfl rfl rfl rfl fun X A hN => ?_
 refine x5h 0 rfl (fun h0 => ?_) ?_
 ·obtain rfl:=List.map_eq_nil_iff.1 h0
  refine z0c ?_
  refine z0b hN rfl ?_
  refine qe rfl ?_
  refine z0c ?_
  refine z0c ?_
  refine z0b hN rfl ?_
  refine qd rfl ?_
  refine z0a (x4n z9v rfl) ?_
  refine z0j _ rfl (fun h => ?_) (fun h=>by cases h)
  refine z0c ?_
  refine z0b hN rfl ?_
  refine qe rfl ?_
  refine y2l 2 900 9 1 rfl rfl rfl ?_
  refine z0m ?_
  exact ⟨trivial,[(2,.row 900 0)],⟨rfl,trivial⟩,⟨rfl,trivial⟩,rfl,.inr (.inl ⟨2,rfl,rfl⟩)⟩
 ·refine z0c ?_
  refine z0b hN rfl ?_
  refine qe rfl ?_
  refine z0c ?_
  refine z0c ?_
  refine z0b hN rfl ?_
  refine qd rfl ?_
  refine z0a (x4o z9v rfl) ?_
  refine z0j _ rfl (fun h=>by cases h) (fun h => ?_)
  refine z0l ?_
  refine z0c ?_
  refine w6c 0 (u':=vlst (List.map z0n l)) rfl w6l ?_
  refine z0b hN rfl ?_
  refine z0k (w1b 900 z8w) rfl ?_
  refine qd rfl ?_
  refine z0k (w5j (C:=z0n) (xs:=[]) z8w (fun _=>rfl) rfl rfl rfl (by simpa using hl) rfl) rfl ?_
  refine z0a (z2b (.row _ _) rfl) ?_
  refine z0m ?_
  exact ⟨trivial,[(2,.row 900 l.length)],⟨rfl,trivial⟩,⟨rfl,trivial⟩,rfl,.inr (.inl ⟨2,rfl,rfl⟩)⟩
theorem x3p (l1:(List Bs)) (r:((List Bs))) (H:y3k l1=some r):Fn Tryz.prog 128 [vlst (List.map z0n l1)] (z1s [vlst (List.map z0n r)]):=by
 refine ⟨by kernel_rfl,z1g (us:=[vlst (List.map z0n r)]) Tryz.func128 rfl rfl rfl rfl fun X hN => ?_⟩
 unfold y3k at H
 refine z0c ?_
 refine z0b hN rfl ?_
 refine qe rfl ?_
 refine z0c ?_
 refine z0b hN rfl ?_
 refine qd rfl ?_
 obtain ⟨r2,h3,H⟩:=bnd H
 refine y2p (rn [(900,1)]) [] [(900,_)] (z99 l1 r2 h3) ⟨rfl,trivial⟩ ⟨.inl (.inl rfl),trivial⟩ trivial rfl ?_
 refine z0a (z2b (.row _ _) rfl) ?_
 refine z0c ?_
 refine z0b hN rfl ?_
 refine z0a (z0h (.row _ _) rfl) ?_
 obtain ⟨r4,h5,H⟩:=bnd H
 refine y2p (rn [(0,1)]) [(0,_,_,some _)] [] (y0n r2 r4 h5) ⟨rfl,trivial⟩ ⟨.inl (.inl rfl),trivial⟩ ⟨⟨⟨rfl,rfl,rfl⟩,by simp [x65,y6a h5]⟩,trivial⟩ rfl ?_
 refine z0c ?_
 refine z0b hN rfl ?_
 refine z0a (z0h (.row _ _) rfl) ?_
 obtain ⟨r6,h7,H⟩:=bnd H
 refine y2p (rn [(0,1),(900,2)]) [(0,_,_,none)] [(900,_)] (z9t r4 r6 h7) ⟨rfl,rfl,trivial⟩ ⟨.inl (.inl (congrArg (Slot.row 1) (y6a h5).symm)),trivial⟩ ⟨⟨⟨rfl,rfl,rfl⟩,trivial⟩,trivial⟩ rfl ?_
 refine z0a (z2b (.row _ _) rfl) ?_
 refine z0m ?_
 cases H
 exact ⟨trivial,y9h rfl rfl,trivial⟩
theorem y13 (s1:(List Bs)) (p1:Bs→Option (Bool)) (fv1:Nat) (us1:List V) (hp1:∀ a0 r,p1 a0=some r→Fn Tryz.prog fv1 ([vstr a0]++us1) (z1s [z01 r])) (r:((List Bs))) (H:z4d s1 p1=some r):FnG Tryz.prog 129 [.row 0 s1.length,.dat (vfn fv1 us1)] [(0,.row 9 1 (List.map z0n s1))] (.row 900 r.length) [(900,.row 9 1 (List.map z0n r))]:=by
 refine x6k (by kernel_rfl) Tryz.func129 rfl rfl rfl rfl fun X A hN => ?_
 unfold z4d at H
 refine z0c ?_
 refine z0b hN rfl ?_
 refine qe rfl ?_
 refine z0c ?_
 refine z0b hN rfl ?_
 refine z0a (z0h (.row _ _) rfl) ?_
 refine qd rfl ?_
 obtain ⟨r2,h3,H⟩:=bnd H
 refine z0y (x8c (id:=0) (es:=List.map z0n s1) (z9q s1 p1 fv1 us1 hp1 r2 h3) ⟨.inr ⟨(congrArg (Slot.row 0) (by rw [List.length_map]):Slot.row 0 s1.length=_),rfl⟩,.inl (.inl (.inl rfl)),trivial⟩ (fun _ _ _ _ h=>h)) rfl ?_
 refine qe rfl ?_
 refine z0c ?_
 refine z0c ?_
 refine z0b hN rfl ?_
 refine qd rfl ?_
 refine z0a (z2a rfl rfl) ?_
 refine z0j _ rfl (fun h4 => ?_) (fun h4 => ?_)
 ·replace H:=ift h4 H
  refine z0c ?_
  refine z0b hN rfl ?_
  refine z0a (z0h (.row _ _) rfl) ?_
  refine z0a (z2b (.row _ _) rfl) ?_
  refine w0g 4 0 900 rfl rfl (by rw [List.length_map]) rfl ?_
  refine z0m ?_
  cases H
  exact ⟨trivial,[(4,.row 900 _)],⟨rfl,trivial⟩,⟨rfl,trivial⟩,rfl,.inr (.inl ⟨4,rfl,rfl⟩)⟩
 ·replace H:=iff_ h4 H
  refine z0l ?_
  refine z0z (ι:=Int×(List Bs)) (fun i=>[(0,.row 0 i.2.length),(5,.dat (vint i.1))]) (fun i=>[(0,.row 9 1 (List.map z0n i.2))]) (fun i=>z3u i.1 i.2=some r) (fun i=>rfl) ?_ ?_
  ·skip
   refine z0c ?_
   refine z0b hN rfl ?_
   refine qd rfl ?_
   refine z0a (z1a _ rfl rfl (.inl ⟨rfl,rfl⟩)) ?_
   refine qe rfl ?_
   refine z0u ?_
   refine y36 (fun (s:Int×Int×(List Bs))=>[(0,.row 0 s.2.2.length),(1,.dat (vfn fv1 us1)),(5,.dat (vint s.1)),(6,.dat (vint s.2.1))]) (fun (s:Int×Int×(List Bs))=>[(0,.row 9 1 (List.map z0n s.2.2))]) (r2,wr (r2+1),s1) H ⟨rfl,rfl,rfl,rfl,trivial⟩ ⟨rfl,trivial⟩ (fun _=>rfl) ?_
   rintro ⟨i5,j6,l7⟩ q8 H hq8
   replace H:z56 p1 i5 j6 l7=some q8:=H
   unfold z56 at H
   refine z0c ?_
   refine z0c ?_
   refine z0b hN rfl ?_
   refine qd rfl ?_
   refine z0a (z0h (.row _ _) rfl) ?_
   refine z0y (x72 z9v rfl rfl) rfl ?_
   refine z0a (z04 rfl rfl) ?_
   refine z0j _ rfl (fun h9 => ?_) (fun h9 => ?_)
   ·replace H:=ift h9 H
    refine z0l ?_
    refine z0z (ι:=Int×(List Bs)) (fun i=>[(0,.row 0 i.2.length),(1,.dat (vfn fv1 us1)),(5,.dat (vint i.1)),(6,.dat (vint j6))]) (fun i=>[(0,.row 9 1 (List.map z0n i.2))]) (fun i=>z2n j6 i.1 i.2=some q8) (fun i=>rfl) ?_ ?_
    ·skip
     refine z0u ?_
     refine z0c ?_
     refine z0b hN rfl ?_
     refine z0a (z0h (.row _ _) rfl) ?_
     refine qd rfl ?_
     obtain ⟨x10,h11,H⟩:=bnd H
     refine z0y (x4d z88 rfl rfl rfl h11) rfl ?_
     refine z0y (w0z tyS9 rfl rfl (z7s h11).2 rfl) rfl ?_
     refine qe rfl ?_
     refine z0c ?_
     refine z0b hN rfl ?_
     refine qd rfl ?_
     refine qd rfl ?_
     obtain ⟨r12,h13,H⟩:=bnd H
     refine z0a (y9n (hp1 x10 r12 h13) rfl ⟨.inl rfl,trivial⟩) ?_
     refine z0a (z3t rfl) ?_
     refine z0j _ rfl (fun h14 => ?_) (fun h14 => ?_)
     ·replace H:=ift h14 H
      refine z0c ?_
      refine z0b hN rfl ?_
      refine z0a (z0h (.row _ _) rfl) ?_
      refine qd rfl ?_
      refine qd rfl ?_
      obtain ⟨x15,h16,H⟩:=bnd H
      refine z0y (x4d z88 rfl rfl rfl h16) rfl ?_
      refine z0k (y7i x10 tyS9 rfl rfl rfl rfl (z7s h16).2 rfl rfl) rfl ?_
      refine z0b hN rfl ?_
      refine qd rfl ?_
      refine z0a (z1a _ rfl rfl (.inl ⟨rfl,rfl⟩)) ?_
      refine qe rfl ?_
      exact ⟨(wr (i5+1),(l7.set i5.toNat x10)),H,⟨congrArg (Slot.row 0) (by simp),rfl,rfl,rfl,trivial⟩,⟨rfl,trivial⟩⟩
     ·replace H:=iff_ h14 H
      refine z0l ?_
      exact ⟨(i5,l7),H,⟨rfl,rfl,rfl,rfl,trivial⟩,⟨rfl,trivial⟩⟩
    ·rintro ⟨i17,s18⟩ H
     replace H:z2n j6 i17 s18=some q8:=H
     unfold z2n at H
     refine z0b hN rfl ?_
     refine qd rfl ?_
     refine z0a (z1a _ rfl rfl (.inl ⟨rfl,rfl⟩)) ?_
     refine qe rfl ?_
     exact ⟨_,z9s H,⟨rfl,rfl,rfl,rfl,trivial⟩,⟨rfl,trivial⟩⟩
   ·replace H:=iff_ h9 H
    refine z14 ?_
    replace H:=outl H hq8
    exact ⟨(i5,l7),H,⟨rfl,rfl,trivial⟩,⟨rfl,trivial⟩⟩
  ·rintro ⟨i19,s20⟩ H
   replace H:z3u i19 s20=some r:=H
   unfold z3u at H
   refine z0c ?_
   refine z0b hN rfl ?_
   refine z0a (z0h (.row _ _) rfl) ?_
   refine qd rfl ?_
   obtain ⟨h21,H⟩:=gif H
   refine z0y (w5g (C:=z0n) z88 rfl rfl rfl h21) rfl ?_
   refine z0k (w26 (C:=z0n) [] z9v tyZ9 rfl rfl rfl rfl rfl h21) rfl ?_
   refine z0c ?_
   refine z0b hN rfl ?_
   refine z0a (z0h (.row _ _) rfl) ?_
   refine qd rfl ?_
   obtain ⟨h22,H⟩:=gif H
   refine w1i (w6r (C:=z0n) 1 z88 rfl (w4o [] h21) rfl h22) rfl rfl ?_
   refine z0a (z2b (.row _ _) rfl) ?_
   refine w0g 4 1 900 rfl rfl (by rw [List.length_map]; exact (x92 h22)) rfl ?_
   refine z0m ?_
   cases H
   exact ⟨trivial,[(4,.row 900 _)],⟨rfl,trivial⟩,⟨rfl,trivial⟩,rfl,.inr (.inl ⟨4,rfl,congrArg (Slot.row 900) (by first | exact x92 (by assumption) | (simp <;> omega))⟩)⟩
theorem x0n (a1:Bs) (b2:Bs) (r:(Bool)) (H:y16 a1 b2=some r):Fn Tryz.prog 133 [vstr a1,vstr b2] (z1s [z01 r]):=by
 refine ⟨by kernel_rfl,z1g (us:=[z01 r]) Tryz.func133 rfl rfl rfl rfl fun X hN => ?_⟩
 unfold y16 at H
 refine z0c ?_
 refine z0b hN rfl ?_
 refine qe rfl ?_
 refine z0c ?_
 refine z0c ?_
 refine z0b hN rfl ?_
 refine qd rfl ?_
 refine qd rfl ?_
 refine z0a (z65 rfl rfl) ?_
 refine z0j _ rfl (fun h3 => ?_) (fun h3 => ?_)
 ·replace H:=ift h3 H
  refine z0c ?_
  refine z0b hN rfl ?_
  refine qe rfl ?_
  refine z0m ?_
  cases H
  exact ⟨trivial,.inl rfl,trivial⟩
 ·replace H:=iff_ h3 H
  refine z0l ?_
  refine z0c ?_
  refine z0b hN rfl ?_
  refine qd rfl ?_
  obtain ⟨r4,h5,H⟩:=bnd H
  refine z0a (z0o (y4j a1 [42] r4 h5) ⟨.inl rfl,.inl rfl,trivial⟩) ?_
  refine qd rfl ?_
  refine z0a (z1q rfl rfl) ?_
  refine z0a (z1q rfl rfl) ?_
  refine qe rfl ?_
  refine qe rfl ?_
  refine z0z (ι:=Bool) (fun i=>[(4,.dat (z01 i))]) (fun i=>[]) (fun i=>y0g i=some r) (fun i=>rfl) ?_ ?_
  ·skip
   refine z0b hN rfl ?_
   refine qd rfl ?_
   refine qd rfl ?_
   refine z08 (j:=1) rfl rfl (fun h6 => ?_) (fun h6 => ?_) rfl
   ·have h7:=un1 h6
    replace H:=ift h7 H
    refine z0p rfl rfl h6 (z0h (.dat _) rfl) ?_
    refine z0p rfl rfl h6 (z0h (.dat _) rfl) ?_
    obtain ⟨r8,h9,H⟩:=bnd H
    refine z0p rfl rfl h6 (z0o (y4i b2 r4.1 r8 h9) ⟨.inl rfl,.inl rfl,trivial⟩) ?_
    refine z0a (z0v rfl (bTT h7) rfl) ?_
    refine qe rfl ?_
    exact ⟨r8,H,⟨rfl,trivial⟩,trivial⟩
   ·have h10:=un2 h6
    replace H:=iff_ h10 H
    refine z0f rfl rfl h6 ?_
    refine z0f rfl rfl h6 ?_
    refine z0f rfl rfl h6 ?_
    refine z0a (z0x rfl (bFF h10) rfl) ?_
    refine qe rfl ?_
    exact ⟨false,H,⟨rfl,trivial⟩,trivial⟩
  ·rintro v11 H
   replace H:y0g v11=some r:=H
   unfold y0g at H
   refine z0m ?_
   cases H
   exact ⟨trivial,.inl rfl,trivial⟩
theorem y76 (h1:Bs) (c2:Bs) (r:(Bool)) (H:y0i h1 c2=some r):Fn Tryz.prog 132 [vstr h1,y1e [[vstr c2]] 0 0] (z1s [z01 r]):=by
 refine ⟨by kernel_rfl,z1g (us:=[z01 r]) Tryz.func132 rfl rfl rfl rfl fun X hN => ?_⟩
 unfold y0i at H
 refine z0c ?_
 refine z0b hN rfl ?_
 refine qe rfl ?_
 refine z0z (ι:=Bool) (fun i=>[(3,.dat (z01 i))]) (fun i=>[]) (fun i=>z8j i=some r) (fun i=>rfl) ?_ ?_
 ·skip
  refine z0b hN rfl ?_
  refine qd rfl ?_
  refine z0a (z0w tyS9 rfl rfl rfl) ?_
  refine z0a (z8k rfl rfl) ?_
  refine qd rfl ?_
  refine z08 (j:=3) rfl rfl (fun h3 => ?_) (fun h3 => ?_) rfl
  ·have h4:=un1 h3
   replace H:=ift h4 H
   refine z0p rfl rfl h3 (z0h (.dat _) rfl) ?_
   refine z0p rfl rfl h3 (z0w tyS9 rfl rfl rfl) ?_
   obtain ⟨r5,h6,H⟩:=bnd H
   refine z0p rfl rfl h3 (z0o (x0n h1 c2 r5 h6) ⟨.inl rfl,.inl rfl,trivial⟩) ?_
   refine z0a (z0v rfl (bTT h4) rfl) ?_
   refine qe rfl ?_
   exact ⟨r5,H,⟨rfl,trivial⟩,trivial⟩
  ·have h7:=un2 h3
   replace H:=iff_ h7 H
   refine z0f rfl rfl h3 ?_
   refine z0f rfl rfl h3 ?_
   refine z0f rfl rfl h3 ?_
   refine z0a (z0x rfl (bFF h7) rfl) ?_
   refine qe rfl ?_
   exact ⟨false,H,⟨rfl,trivial⟩,trivial⟩
 ·rintro v8 H
  replace H:z8j v8=some r:=H
  unfold z8j at H
  refine z0m ?_
  cases H
  exact ⟨trivial,.inl rfl,trivial⟩
theorem y93 (s1:Bs) (c2:(List Bs)) (r:(Bool)) (H:y1o s1 c2=some r):Fn Tryz.prog 131 [vstr s1,y1e [[vlst (List.map z0n c2)]] 0 0] (z1s [z01 r]):=by
 refine ⟨by kernel_rfl,z1g (us:=[z01 r]) Tryz.func131 rfl rfl rfl rfl fun X hN => ?_⟩
 unfold y1o at H
 refine z0c ?_
 refine z0b hN rfl ?_
 refine z0k (y7k 1 rfl rfl) rfl ?_
 refine qe rfl ?_
 refine z0c ?_
 refine y37 1 [vstr s1] rfl rfl ?_
 refine z0b hN rfl ?_
 refine z0a (z0w z7t rfl rfl rfl) ?_
 refine z0a (y4u (us:=[_]) ⟨rfl,trivial⟩) ?_
 obtain ⟨r3,h4,H⟩:=bnd H
 refine z0a (z0o (z52 c2 (fun (a0:Bs)=>y0i a0 s1) 132 [y1e [[vstr s1]] 0 0] (fun a0 r h=>y76 a0 s1 r h) r3 h4) ⟨.inl rfl,.inl rfl,trivial⟩) ?_
 refine qe rfl ?_
 refine z0m ?_
 cases H
 exact ⟨trivial,.inl rfl,trivial⟩
theorem x1y (l1:(List Bs)) (r:((List Bs))) (H:y2s l1=some r):Fn Tryz.prog 101 [vlst (List.map z0n l1)] (z1s [vlst (List.map z0n r)]):=by
 refine ⟨by kernel_rfl,z1g (us:=[vlst (List.map z0n r)]) Tryz.func101 rfl rfl rfl rfl fun X hN => ?_⟩
 unfold y2s at H
 refine z0c ?_
 refine z0b hN rfl ?_
 refine z0k (y7k 1 rfl rfl) rfl ?_
 refine qe rfl ?_
 refine z0c ?_
 refine z0b hN rfl ?_
 refine z0y (z0s z7t rfl rfl) rfl ?_
 obtain ⟨r2,h3,H⟩:=bnd H
 refine z0a (z0o (x3p l1 r2 h3) ⟨.inl rfl,trivial⟩) ?_
 refine z0k (z1m z7t rfl rfl rfl rfl) rfl ?_
 refine z0c ?_
 refine y37 1 [vlst (List.map z0n r2)] rfl rfl ?_
 refine z0b hN rfl ?_
 refine z0a (z0w z7t rfl rfl rfl) ?_
 obtain ⟨r4,h5,H⟩:=bnd H
 refine y2p (rn [(900,2)]) [] [(900,_)] (z99 r2 r4 h5) ⟨rfl,trivial⟩ ⟨.inl (.inl rfl),trivial⟩ trivial rfl ?_
 refine z0a (y4u (us:=[_]) ⟨rfl,trivial⟩) ?_
 obtain ⟨r6,h7,H⟩:=bnd H
 refine y2p (rn [(0,2),(900,3)]) [(0,_,_,none)] [(900,_)] (y13 r4 (fun (a0:Bs)=>y1o a0 r2) 131 [y1e [[vlst (List.map z0n r2)]] 0 0] (fun a0 r h=>y93 a0 r2 r h) r6 h7) ⟨rfl,rfl,trivial⟩ ⟨.inl (.inl rfl),.inl (.inl rfl),trivial⟩ ⟨⟨⟨rfl,rfl,rfl⟩,trivial⟩,trivial⟩ rfl ?_
 refine z0a (z2b (.row _ _) rfl) ?_
 refine z0m ?_
 cases H
 exact ⟨trivial,y9h rfl rfl,trivial⟩
theorem z50 (s1:(List Bs)) (s2:(List Bs)) (r:(Bool)) (H:z1y s1 s2=some r):Fn Tryz.prog 54 [vlst (List.map z0n s1),vlst (List.map z0n s2)] (z1s [z01 r]):=by
 refine ⟨by kernel_rfl,z1g (us:=[z01 r]) Tryz.func54 rfl rfl rfl rfl fun X hN => ?_⟩
 unfold z1y at H
 refine z0c ?_
 refine z0b hN rfl ?_
 refine qe rfl ?_
 refine z0c ?_
 refine z0c ?_
 refine z0b hN rfl ?_
 refine qd rfl ?_
 refine z0a (z8d z9v rfl) ?_
 refine qd rfl ?_
 refine z0a (z8d z9v rfl) ?_
 refine z0a (z68 rfl rfl) ?_
 refine z0j _ rfl (fun h3 => ?_) (fun h3 => ?_)
 ·replace H:=ift h3 H
  refine z0c ?_
  refine z0b hN rfl ?_
  refine qe rfl ?_
  refine z0m ?_
  cases H
  exact ⟨trivial,.inl rfl,trivial⟩
 ·replace H:=iff_ h3 H
  refine z0l ?_
  refine z0c ?_
  refine z0c ?_
  refine z0b hN rfl ?_
  refine qd rfl ?_
  refine z0a (z8d z9v rfl) ?_
  refine qd rfl ?_
  refine z0u ?_
  obtain ⟨h6,H⟩:=gif H
  refine z6c (fun (k4:Nat) (s:Unit)=>[(0,.dat (vlst (List.map z0n s1))),(1,.dat (vlst (List.map z0n s2))),(12,.dat (vint (s1.length:Int))),(13,.dat (vint (k4:Int)))]) (fun (k4:Nat) (s:Unit)=>[]) () H ⟨rfl,rfl,rfl,rfl,trivial⟩ trivial (fun _ _=>rfl) ?_ ?_
  ·rintro ⟨⟩ H
   replace H:z7q=some r:=H
   unfold z7q at H
   refine z0c ?_
   refine z0b hN rfl ?_
   refine z0a (z04 rfl rfl) ?_
   refine z0c ?_
   refine z0j _ rfl (fun h=>(lt_t h).elim) (fun h => ?_)
   refine z14 ?_
   refine z0c ?_
   refine z0b hN rfl ?_
   refine qe rfl ?_
   refine z0m ?_
   cases H
   exact ⟨trivial,.inl rfl,trivial⟩
  ·rintro k4 x7 ⟨⟩ q5 h8 h9 H hq5
   replace H:z5s s2 k4 x7=some q5:=H
   unfold z5s at H
   refine z0c ?_
   refine z0b hN rfl ?_
   refine z0a (z04 rfl rfl) ?_
   refine z0c ?_
   refine z0j _ rfl (fun h => ?_) (fun h=>(lt_f h8 h).elim)
   refine z0l ?_
   refine z0c ?_
   refine z0u ?_
   refine z0c ?_
   refine z0b hN rfl ?_
   refine qd rfl ?_
   refine qe rfl ?_
   refine z0c ?_
   refine z5o mixed hN rfl rfl ?_
   refine qd rfl ?_
   refine qd rfl ?_
   refine z0a (y00 z88 (fun _=>rfl) rfl rfl h9) ?_
   refine z0a (z0w tyS9 rfl (z3m h9) rfl) ?_
   refine qd rfl ?_
   refine qd rfl ?_
   obtain ⟨x10,h11,H⟩:=bnd H
   refine z0a (y00 z88 (fun _=>rfl) rfl rfl h11) ?_
   refine z0a (z0w tyS9 rfl (z3m h11) rfl) ?_
   refine z0a (z8k rfl rfl) ?_
   refine ⟨rfl,?_⟩
   refine z0j _ rfl (fun h12 => ?_) (fun h12 => ?_)
   ·replace H:=ift h12 H
    refine z0c ?_
    refine z0b hN rfl ?_
    refine qe rfl ?_
    refine z0m ?_
    replace H:=retl H hq5
    cases H
    exact ⟨trivial,.inl rfl,trivial⟩
   ·replace H:=iff_ h12 H
    refine z0l ?_
    refine z0b hN rfl ?_
    refine z0a (z5w rfl rfl (by omega)) ?_
    refine qd rfl ?_
    exact ⟨_,z9s H,⟨rfl,rfl,rfl,rfl,trivial⟩,trivial⟩
theorem y4h (v1:z0e) (r:(Int)) (H:z6q v1=some r):Fn Tryz.prog 60 [vagg (z0t v1)] (z1s [vint r]):=by
 refine ⟨by kernel_rfl,z1g (us:=[vint r]) Tryz.func60 rfl rfl rfl rfl fun X hN => ?_⟩
 unfold z6q at H
 refine z0c ?_
 refine z0b hN rfl ?_
 refine z0k (y0e 1 rfl) rfl ?_
 refine qe rfl ?_
 refine z0c ?_
 refine z0z (ι:=Bool) (fun i=>[(1,.ptr 1 0),(31,.dat (z01 i))]) (fun i=>[(1,.box none 30 [.dat (vstr v1.Id),.dat (vstr v1.Subject),.dat (vstr v1.Issuer),.dat (vstr v1.Parent),.dat (vlst (List.map z0n v1.Audience)),.dat (vlst (List.map z0n v1.Scopes)),.dat (vint v1.From),.dat (vint v1.To)])]) (fun i=>z3a v1 i=some r) (fun i=>rfl) ?_ ?_
 ·skip
  refine z0b hN rfl ?_
  refine z0a (z0r y5o rfl) ?_
  refine z0y (z0s tyS9 rfl rfl) rfl ?_
  obtain ⟨r2,h3,H⟩:=bnd H
  refine z0a (z0o (y1r v1.Id r2 h3) ⟨.inl rfl,trivial⟩) ?_
  refine z0a (z3t rfl) ?_
  refine qd rfl ?_
  refine z08 (j:=4) rfl rfl (fun h4 => ?_) (fun h4 => ?_) rfl
  ·have h5:=un3 h4
   replace H:=iff_ h5 H
   refine z0p rfl rfl h4 (z0r y5n rfl) ?_
   refine y15 rfl rfl h4 (z0s tyS9 rfl rfl) rfl ?_
   obtain ⟨r6,h7,H⟩:=bnd H
   refine z0p rfl rfl h4 (z0o (y1r v1.Subject r6 h7) ⟨.inl rfl,trivial⟩) ?_
   refine z0p rfl rfl h4 (z3t rfl) ?_
   refine z0a (z0x rfl (bFF h5) rfl) ?_
   refine qd rfl ?_
   refine z08 (j:=10) rfl rfl (fun h8 => ?_) (fun h8 => ?_) rfl
   ·have h9:=un3 h8
    replace H:=iff_ h9 H
    refine z0p rfl rfl h8 (z0r y5m rfl) ?_
    refine y15 rfl rfl h8 (z0s tyS9 rfl rfl) rfl ?_
    obtain ⟨r10,h11,H⟩:=bnd H
    refine z0p rfl rfl h8 (z0o (y1r v1.Issuer r10 h11) ⟨.inl rfl,trivial⟩) ?_
    refine z0p rfl rfl h8 (z3t rfl) ?_
    refine z0a (z0x rfl (bFF h9) rfl) ?_
    refine qd rfl ?_
    refine z08 (j:=16) rfl rfl (fun h12 => ?_) (fun h12 => ?_) rfl
    ·have h13:=un3 h12
     replace H:=iff_ h13 H
     refine z0p rfl rfl h12 (z0r y25 rfl) ?_
     refine y15 rfl rfl h12 (z0s tyS9 rfl rfl) rfl ?_
     refine z0p rfl rfl h12 (z8k rfl rfl) ?_
     refine z0p rfl rfl h12 (z0h (.dat _) rfl) ?_
     refine z08 (j:=20) rfl rfl (fun h14 => ?_) (fun h14 => ?_) rfl
     ·have h15:=un1 h14
      replace H:=ift h15 H
      refine z0p rfl rfl h14 (z0r y25 rfl) ?_
      refine y15 rfl rfl h14 (z0s tyS9 rfl rfl) rfl ?_
      obtain ⟨r16,h17,H⟩:=bnd H
      refine z0p rfl rfl h14 (z0o (y1r v1.Parent r16 h17) ⟨.inl rfl,trivial⟩) ?_
      refine z0p rfl rfl h14 (z3t rfl) ?_
      refine z0p rfl rfl h12 (z0v rfl (bTT h15) rfl) ?_
      refine z0a (z0x rfl (bFF h13) rfl) ?_
      exact ⟨!r16,H,⟨rfl,rfl,trivial⟩,⟨rfl,trivial⟩⟩
     ·have h18:=un2 h14
      replace H:=iff_ h18 H
      refine z0f rfl rfl h14 ?_
      refine z0f rfl rfl h14 ?_
      refine z0f rfl rfl h14 ?_
      refine z0f rfl rfl h14 ?_
      refine z0p rfl rfl h12 (z0x rfl (bFF h18) rfl) ?_
      refine z0a (z0x rfl (bFF h13) rfl) ?_
      exact ⟨false,H,⟨rfl,rfl,trivial⟩,⟨rfl,trivial⟩⟩
    ·have h19:=un4 h12
     replace H:=ift h19 H
     refine z0f rfl rfl h12 ?_
     refine z0f rfl rfl h12 ?_
     refine z0f rfl rfl h12 ?_
     refine z0f rfl rfl h12 ?_
     refine z06 rfl rfl ?_
     refine z06 rfl rfl ?_
     refine z06 rfl rfl ?_
     refine z06 rfl rfl ?_
     refine z0f rfl rfl h12 ?_
     refine z0a (z0v rfl (bTT h19) rfl) ?_
     exact ⟨true,H,⟨rfl,rfl,trivial⟩,⟨rfl,trivial⟩⟩
   ·have h20:=un4 h8
    replace H:=ift h20 H
    refine z0f rfl rfl h8 ?_
    refine z0f rfl rfl h8 ?_
    refine z0f rfl rfl h8 ?_
    refine z0f rfl rfl h8 ?_
    refine z0a (z0v rfl (bTT h20) rfl) ?_
    refine qd rfl ?_
    refine z0f rfl rfl rfl ?_
    refine z0f rfl rfl rfl ?_
    refine z0f rfl rfl rfl ?_
    refine z0f rfl rfl rfl ?_
    refine z06 rfl rfl ?_
    refine z06 rfl rfl ?_
    refine z06 rfl rfl ?_
    refine z06 rfl rfl ?_
    refine z0f rfl rfl rfl ?_
    refine z0a (z0v rfl rfl rfl) ?_
    exact ⟨true,H,⟨rfl,rfl,trivial⟩,⟨rfl,trivial⟩⟩
  ·have h21:=un4 h4
   replace H:=ift h21 H
   refine z0f rfl rfl h4 ?_
   refine z0f rfl rfl h4 ?_
   refine z0f rfl rfl h4 ?_
   refine z0f rfl rfl h4 ?_
   refine z0a (z0v rfl (bTT h21) rfl) ?_
   refine qd rfl ?_
   refine z0f rfl rfl rfl ?_
   refine z0f rfl rfl rfl ?_
   refine z0f rfl rfl rfl ?_
   refine z0f rfl rfl rfl ?_
   refine z0a (z0v rfl rfl rfl) ?_
   refine qd rfl ?_
   refine z0f rfl rfl rfl ?_
   refine z0f rfl rfl rfl ?_
   refine z0f rfl rfl rfl ?_
   refine z0f rfl rfl rfl ?_
   refine z06 rfl rfl ?_
   refine z06 rfl rfl ?_
   refine z06 rfl rfl ?_
   refine z06 rfl rfl ?_
   refine z0f rfl rfl rfl ?_
   refine z0a (z0v rfl rfl rfl) ?_
   exact ⟨true,H,⟨rfl,rfl,trivial⟩,⟨rfl,trivial⟩⟩
 ·rintro v22 H
  replace H:z3a v1 v22=some r:=H
  unfold z3a at H
  refine z0j _ rfl (fun h23 => ?_) (fun h23 => ?_)
  ·replace H:=ift h23 H
   refine z0c ?_
   refine z0b hN rfl ?_
   refine qe rfl ?_
   refine z0m ?_
   cases H
   exact ⟨trivial,.inl rfl,trivial⟩
  ·replace H:=iff_ h23 H
   refine z0l ?_
   refine z0c ?_
   refine z0c ?_
   refine z0b hN rfl ?_
   refine z0a (z0r y2n rfl) ?_
   refine z0y (z0s z7t rfl rfl) rfl ?_
   refine z0a (z8d z9v rfl) ?_
   refine z0a (z29 rfl rfl) ?_
   refine z0j _ rfl (fun h24 => ?_) (fun h24 => ?_)
   ·replace H:=ift h24 H
    refine z0c ?_
    refine z0b hN rfl ?_
    refine qe rfl ?_
    refine z0m ?_
    cases H
    exact ⟨trivial,.inl rfl,trivial⟩
   ·replace H:=iff_ h24 H
    refine z0l ?_
    refine z0c ?_
    refine z0c ?_
    refine z0b hN rfl ?_
    refine z0a (z0r y2n rfl) ?_
    refine z0y (z0s z7t rfl rfl) rfl ?_
    obtain ⟨r25,h26,H⟩:=bnd H
    refine z0a (z0o (y78 v1.Audience r25 h26) ⟨.inl rfl,trivial⟩) ?_
    refine qe rfl ?_
    refine z0c ?_
    refine z0b hN rfl ?_
    refine qd rfl ?_
    refine z0a (z68 rfl rfl) ?_
    refine z0j _ rfl (fun h27 => ?_) (fun h27 => ?_)
    ·replace H:=ift h27 H
     refine z0c ?_
     refine z0b hN rfl ?_
     refine qd rfl ?_
     refine qe rfl ?_
     refine z0m ?_
     cases H
     exact ⟨trivial,.inl rfl,trivial⟩
    ·replace H:=iff_ h27 H
     refine z0l ?_
     refine z0c ?_
     refine z0c ?_
     refine z0b hN rfl ?_
     refine z0a (z0r y2g rfl) ?_
     refine z0y (z0s z7t rfl rfl) rfl ?_
     obtain ⟨r28,h29,H⟩:=bnd H
     refine z0a (z0o (y69 v1.Scopes r28 h29) ⟨.inl rfl,trivial⟩) ?_
     refine qe rfl ?_
     refine z0c ?_
     refine z0b hN rfl ?_
     refine qd rfl ?_
     refine z0a (z68 rfl rfl) ?_
     refine z0j _ rfl (fun h30 => ?_) (fun h30 => ?_)
     ·replace H:=ift h30 H
      refine z0c ?_
      refine z0b hN rfl ?_
      refine qd rfl ?_
      refine qe rfl ?_
      refine z0m ?_
      cases H
      exact ⟨trivial,.inl rfl,trivial⟩
     ·replace H:=iff_ h30 H
      refine z0l ?_
      refine z0c ?_
      refine z0c ?_
      refine z5o mixed hN rfl rfl ?_
      refine z0a (z0r y2g rfl) ?_
      refine z0y (z0s z7t rfl rfl) rfl ?_
      refine z0a (z0r y2g rfl) ?_
      refine z0y (z0s z7t rfl rfl) rfl ?_
      obtain ⟨r31,h32,H⟩:=bnd H
      refine z0a (z0o (x1y v1.Scopes r31 h32) ⟨.inl rfl,trivial⟩) ?_
      obtain ⟨r33,h34,H⟩:=bnd H
      refine z0a (z0o (z50 v1.Scopes r31 r33 h34) ⟨.inl rfl,.inl rfl,trivial⟩) ?_
      refine z0a (z3t rfl) ?_
      refine ⟨rfl,?_⟩
      refine z0j _ rfl (fun h35 => ?_) (fun h35 => ?_)
      ·replace H:=ift h35 H
       refine z0c ?_
       refine z0b hN rfl ?_
       refine qe rfl ?_
       refine z0m ?_
       cases H
       exact ⟨trivial,.inl rfl,trivial⟩
      ·replace H:=iff_ h35 H
       refine z0l ?_
       refine z0c ?_
       refine z0c ?_
       refine z0b hN rfl ?_
       refine z0a (z0r y3p rfl) ?_
       refine z0y (z0s tyS3 rfl rfl) rfl ?_
       refine z0a (z04 rfl rfl) ?_
       refine qd rfl ?_
       refine z2r rfl rfl (fun hc=>z0r y3p rfl) ?_
       refine y5r rfl rfl (fun hc=>z0s tyS3 (cnd (c:=(!(decide (v1.From < 0)))) hc) rfl) rfl y6z ?_
       refine z2r rfl rfl (fun hc=>z0r y2m rfl) ?_
       refine y5r rfl rfl (fun hc=>z0s tyS3 (cnd (c:=(!(decide (v1.From < 0)))) hc) rfl) rfl y6z ?_
       refine z2r rfl rfl (fun hc=>z9w (cnd (c:=(!(decide (v1.From < 0)))) hc) (cnd (c:=(!(decide (v1.From < 0)))) hc)) ?_
       refine z0a (z3f rfl rfl (fun hb=>(cnd (c:=(!(decide (v1.From < 0)))) (notI hb)))) ?_
       refine qd rfl ?_
       refine z2r rfl rfl (fun hc=>z0r y2m rfl) ?_
       refine y5r rfl rfl (fun hc=>z0s tyS3 (cnd (c:=(!((decide (v1.From < 0)) || (decide (v1.To≤v1.From))))) hc) rfl) rfl y6z ?_
       refine z2r rfl rfl (fun hc=>z29 (cnd (c:=(!((decide (v1.From < 0)) || (decide (v1.To≤v1.From))))) hc) rfl) ?_
       refine z0a (z3f rfl rfl (fun hb=>(cnd (c:=(!((decide (v1.From < 0)) || (decide (v1.To≤v1.From))))) (notI hb)))) ?_
       refine z0j _ rfl (fun h36 => ?_) (fun h36 => ?_)
       ·replace H:=ift h36 H
        refine z0c ?_
        refine z0b hN rfl ?_
        refine qe rfl ?_
        refine z0m ?_
        cases H
        exact ⟨trivial,.inl rfl,trivial⟩
       ·replace H:=iff_ h36 H
        refine z0l ?_
        refine z0c ?_
        refine z0b hN rfl ?_
        refine qe rfl ?_
        refine z0m ?_
        cases H
        exact ⟨trivial,.inl rfl,trivial⟩
theorem y05 (l:List Bs) (sep r:Bs) (H:z3n l sep=some r):Fn Tryz.prog 61 [vlst (List.map z0n l),vstr sep] (z1s [vstr r]):=by
 obtain ⟨h1,h2,rfl⟩:=x9l H
 refine y1t (by kernel_rfl) fun M w vs hM h => ?_
 obtain ⟨hl,hv⟩:=h
 obtain ⟨a,ha,hap⟩:=hv 0 _ rfl
 obtain ⟨s,hs,hsp⟩:=hv 1 _ rfl
 have hsp:s = .string ⟨sep.toArray⟩:=hsp
 subst hsp
 have hvs:vs.toArray = #[a,.string ⟨sep.toArray⟩]:=by
  rcases vs with _ | ⟨x,_ | ⟨y,_ | ⟨z,t⟩⟩⟩
  ·cases ha
  ·cases hs
  ·cases ha; cases hs; rfl
  ·simp at hl
 rw [hvs]
 obtain ⟨A,c,q1,q2,q3⟩:=hap
 simp only [List.length_map] at q1 q2
 subst q1
 by_cases hne:l=[]
 ·subst hne
  refine (Tryz.strings_Join_none A c ⟨sep.toArray⟩ w).mono ?_
  rintro e w' ⟨rfl,rfl⟩
  exact ⟨_,rfl,rfl,Kp.refl _ _⟩
 ·obtain ⟨b,off,size,rfl,hMb,arr,t,fz,q5,q6,q7⟩:=q3 (by simpa using hne)
  have hsz:size=1:=by
   cases hq:l with
   | nil=>exact absurd hq hne
   | cons x l'=>have:=q6 (z0n x) (by rw [hq]; simp); simpa using this.symm
  subst hsz
  have e1:((l.map fun x=>ByteArray.mk x.toArray).map (·.data.toList))=l:=by
   rw [List.map_map]
   exact (List.map_congr_left fun x _=>rfl).trans (List.map_id l)
  have hj:=Tryz.strings_Join b off c (l.map fun x=>ByteArray.mk x.toArray) ⟨sep.toArray⟩ w (fun j x hx=>by
   rw [List.getElem?_map] at hx
   cases hq:l[j]? with
   | none=>rw [hq] at hx; cases hx
   | some y =>
    rw [hq] at hx
    cases hx
    obtain ⟨v,r1,r2,_⟩:=q7 j 0 (z0n y) (vstr y) (by rw [List.getElem?_map,hq]; rfl) rfl
    have r2:v = .string ⟨y.toArray⟩:=r2
    rw [cell_of_row w b _ _ _ _ q5]
    simp only [Nat.mul_one,Nat.add_zero] at r1
    rw [r1,r2]) (z98 q5) (by simp; omega) (by simpa using q2) (by rw [e1]; simp only; omega)
  rw [List.length_map,e1] at hj
  refine hj.mono ?_
  rintro e w' ⟨rfl,hb⟩
  exact ⟨_,rfl,rfl,Kp.of_below hb⟩
theorem y19 (n:Int) (r:Bs) (H:z7a n=some r):Fn Tryz.prog 62 [vint n] (z1s [vstr r]):=by
 obtain ⟨⟨h1,h2⟩,h3⟩:=gif H
 cases h3
 refine y1t (by kernel_rfl) fun M w vs hM h => ?_
 have hv:=y3w (us:=[.int .i64 n]) h
 subst hv
 refine (Tryz.strconv_Itoa n h1 h2 w (x8y hM)).mono ?_
 rintro e w' ⟨rfl,k,os,rfl⟩
 exact ⟨_,rfl,rfl,Kp.of_below ⟨rfl,rfl,rfl,by show w.heap.size≤(w.heap++os).size; rw [Array.size_append]; omega,fun j hj=>by show (w.heap++os)[j]?=w.heap[j]?; exact Array.getElem?_append_left hj⟩⟩
theorem y7r (v1:z0e) (r:(Bs×Int)) (H:z57 v1=some r):Fn Tryz.prog 25 [vagg (z0t v1)] (z1s [vstr r.1,vint r.2]):=by
 refine ⟨by kernel_rfl,z1g (us:=[vstr r.1,vint r.2]) Tryz.func25 rfl rfl rfl rfl fun X hN => ?_⟩
 unfold z57 at H
 refine z0c ?_
 refine z0b hN rfl ?_
 refine z0k (y0e 1 rfl) rfl ?_
 refine qe rfl ?_
 refine qe rfl ?_
 refine z0c ?_
 refine z0c ?_
 refine z0b hN rfl ?_
 refine z0y (z5v z4c rfl rfl rfl) rfl ?_
 obtain ⟨r2,h3,H⟩:=bnd H
 refine z0a (z0o (y4h v1 r2 h3) ⟨.inl rfl,trivial⟩) ?_
 refine qe rfl ?_
 refine z0c ?_
 refine z0b hN rfl ?_
 refine qd rfl ?_
 refine z0a (z68 rfl rfl) ?_
 refine z0j _ rfl (fun h4 => ?_) (fun h4 => ?_)
 ·replace H:=ift h4 H
  refine z0c ?_
  refine z0b hN rfl ?_
  refine qd rfl ?_
  refine qe rfl ?_
  refine qe rfl ?_
  refine z0m ?_
  cases H
  exact ⟨trivial,.inl rfl,.inl rfl,trivial⟩
 ·replace H:=iff_ h4 H
  refine z0l ?_
  refine z0c ?_
  refine z0b hN rfl ?_
  refine z0a (z0r y5o rfl) ?_
  refine z0y (z0s tyS9 rfl rfl) rfl ?_
  obtain ⟨h5,H⟩:=gif H
  refine z0a (z1h rfl rfl (Nat.le_trans h5 (by decide))) ?_
  obtain ⟨h6,H⟩:=gif H
  refine z0a (z1h rfl rfl (Nat.le_trans h6 (by decide))) ?_
  refine z0a (z0r y5n rfl) ?_
  refine z0y (z0s tyS9 rfl rfl) rfl ?_
  obtain ⟨h7,H⟩:=gif H
  refine z0a (z1h rfl rfl (Nat.le_trans h7 (by decide))) ?_
  obtain ⟨h8,H⟩:=gif H
  refine z0a (z1h rfl rfl (Nat.le_trans h8 (by decide))) ?_
  refine z0a (z0r y5m rfl) ?_
  refine z0y (z0s tyS9 rfl rfl) rfl ?_
  obtain ⟨h9,H⟩:=gif H
  refine z0a (z1h rfl rfl (Nat.le_trans h9 (by decide))) ?_
  obtain ⟨h10,H⟩:=gif H
  refine z0a (z1h rfl rfl (Nat.le_trans h10 (by decide))) ?_
  refine qe rfl ?_
  refine z0z (ι:=Bs) (fun i=>[(1,.ptr 1 0),(5,.dat (vstr i))]) (fun i=>[(1,.box none 30 [.dat (vstr v1.Id),.dat (vstr v1.Subject),.dat (vstr v1.Issuer),.dat (vstr v1.Parent),.dat (vlst (List.map z0n v1.Audience)),.dat (vlst (List.map z0n v1.Scopes)),.dat (vint v1.From),.dat (vint v1.To)])]) (fun i=>z5u v1 i=some r) (fun i=>rfl) ?_ ?_
  ·skip
   refine z0c ?_
   refine z0b hN rfl ?_
   refine z0a (z0r y25 rfl) ?_
   refine z0y (z0s tyS9 rfl rfl) rfl ?_
   refine z0a (z8k rfl rfl) ?_
   refine z0j _ rfl (fun h11 => ?_) (fun h11 => ?_)
   ·replace H:=ift h11 H
    refine z0b hN rfl ?_
    refine qd rfl ?_
    refine z0a (z0r y25 rfl) ?_
    refine z0y (z0s tyS9 rfl rfl) rfl ?_
    obtain ⟨h12,H⟩:=gif H
    refine z0a (z1h rfl rfl (Nat.le_trans h12 (by decide))) ?_
    obtain ⟨h13,H⟩:=gif H
    refine z0a (z1h rfl rfl (Nat.le_trans h13 (by decide))) ?_
    obtain ⟨h14,H⟩:=gif H
    refine z0a (z1h rfl rfl (Nat.le_trans h14 (by decide))) ?_
    refine qe rfl ?_
    exact ⟨((((((([105,100,32]++v1.Id)++[10,115,117,98,106,101,99,116,32])++v1.Subject)++[10,105,115,115,117,101,114,32])++v1.Issuer)++[10])++(([112,97,114,101,110,116,32]++v1.Parent)++[10])),H,⟨rfl,rfl,trivial⟩,⟨rfl,trivial⟩⟩
   ·replace H:=iff_ h11 H
    refine z0l ?_
    exact ⟨(((((([105,100,32]++v1.Id)++[10,115,117,98,106,101,99,116,32])++v1.Subject)++[10,105,115,115,117,101,114,32])++v1.Issuer)++[10]),H,⟨rfl,rfl,trivial⟩,⟨rfl,trivial⟩⟩
  ·rintro v15 H
   replace H:z5u v1 v15=some r:=H
   unfold z5u at H
   refine z0z (ι:=Bs) (fun i=>[(1,.ptr 1 0),(5,.dat (vstr i))]) (fun i=>[(1,.box none 30 [.dat (vstr v1.Id),.dat (vstr v1.Subject),.dat (vstr v1.Issuer),.dat (vstr v1.Parent),.dat (vlst (List.map z0n v1.Audience)),.dat (vlst (List.map z0n v1.Scopes)),.dat (vint v1.From),.dat (vint v1.To)])]) (fun i=>z6p v1 i=some r) (fun i=>rfl) ?_ ?_
   ·skip
    refine z0c ?_
    refine z0b hN rfl ?_
    refine z0a (z0r y2n rfl) ?_
    refine z0y (z0s z7t rfl rfl) rfl ?_
    refine z0a (z8d z9v rfl) ?_
    refine z0a (z29 rfl rfl) ?_
    refine z0j _ rfl (fun h16 => ?_) (fun h16 => ?_)
    ·replace H:=ift h16 H
     refine z0b hN rfl ?_
     refine qd rfl ?_
     refine z0a (z0r y2n rfl) ?_
     refine z0y (z0s z7t rfl rfl) rfl ?_
     obtain ⟨r17,h18,H⟩:=bnd H
     refine z0a (z0o (y05 v1.Audience [32] r17 h18) ⟨.inl rfl,.inl rfl,trivial⟩) ?_
     obtain ⟨h19,H⟩:=gif H
     refine z0a (z1h rfl rfl (Nat.le_trans h19 (by decide))) ?_
     obtain ⟨h20,H⟩:=gif H
     refine z0a (z1h rfl rfl (Nat.le_trans h20 (by decide))) ?_
     obtain ⟨h21,H⟩:=gif H
     refine z0a (z1h rfl rfl (Nat.le_trans h21 (by decide))) ?_
     refine qe rfl ?_
     exact ⟨(v15++(([102,111,114,32]++r17)++[10])),H,⟨rfl,rfl,trivial⟩,⟨rfl,trivial⟩⟩
    ·replace H:=iff_ h16 H
     refine z0l ?_
     exact ⟨v15,H,⟨rfl,rfl,trivial⟩,⟨rfl,trivial⟩⟩
   ·rintro v22 H
    replace H:z6p v1 v22=some r:=H
    unfold z6p at H
    refine z0z (ι:=Bs) (fun i=>[(1,.ptr 1 0),(5,.dat (vstr i))]) (fun i=>[(1,.box none 30 [.dat (vstr v1.Id),.dat (vstr v1.Subject),.dat (vstr v1.Issuer),.dat (vstr v1.Parent),.dat (vlst (List.map z0n v1.Audience)),.dat (vlst (List.map z0n v1.Scopes)),.dat (vint v1.From),.dat (vint v1.To)])]) (fun i=>z4m v1 i=some r) (fun i=>rfl) ?_ ?_
    ·skip
     refine z0c ?_
     refine z0b hN rfl ?_
     refine z0a (z0r y2g rfl) ?_
     refine z0y (z0s z7t rfl rfl) rfl ?_
     refine z0a (z8d z9v rfl) ?_
     refine z0a (z29 rfl rfl) ?_
     refine z0j _ rfl (fun h23 => ?_) (fun h23 => ?_)
     ·replace H:=ift h23 H
      refine z0b hN rfl ?_
      refine qd rfl ?_
      refine z0a (z0r y2g rfl) ?_
      refine z0y (z0s z7t rfl rfl) rfl ?_
      obtain ⟨r24,h25,H⟩:=bnd H
      refine z0a (z0o (y05 v1.Scopes [32] r24 h25) ⟨.inl rfl,.inl rfl,trivial⟩) ?_
      obtain ⟨h26,H⟩:=gif H
      refine z0a (z1h rfl rfl (Nat.le_trans h26 (by decide))) ?_
      obtain ⟨h27,H⟩:=gif H
      refine z0a (z1h rfl rfl (Nat.le_trans h27 (by decide))) ?_
      obtain ⟨h28,H⟩:=gif H
      refine z0a (z1h rfl rfl (Nat.le_trans h28 (by decide))) ?_
      refine qe rfl ?_
      exact ⟨(v22++(([109,97,121,32]++r24)++[10])),H,⟨rfl,rfl,trivial⟩,⟨rfl,trivial⟩⟩
     ·replace H:=iff_ h23 H
      refine z0l ?_
      exact ⟨v22,H,⟨rfl,rfl,trivial⟩,⟨rfl,trivial⟩⟩
    ·rintro v29 H
     replace H:z4m v1 v29=some r:=H
     unfold z4m at H
     refine z0c ?_
     refine z5o mixed hN rfl rfl ?_
     refine qd rfl ?_
     refine z0a (z0r y3p rfl) ?_
     refine z0y (z0s tyS3 rfl rfl) rfl ?_
     obtain ⟨r30,h31,H⟩:=bnd H
     refine z0a (z0o (y19 v1.From r30 h31) ⟨.inl rfl,trivial⟩) ?_
     obtain ⟨h32,H⟩:=gif H
     refine z0a (z1h rfl rfl (Nat.le_trans h32 (by decide))) ?_
     obtain ⟨h33,H⟩:=gif H
     refine z0a (z1h rfl rfl (Nat.le_trans h33 (by decide))) ?_
     refine z0a (z0r y2m rfl) ?_
     refine z0y (z0s tyS3 rfl rfl) rfl ?_
     obtain ⟨r34,h35,H⟩:=bnd H
     refine z0a (z0o (y19 v1.To r34 h35) ⟨.inl rfl,trivial⟩) ?_
     obtain ⟨h36,H⟩:=gif H
     refine z0a (z1h rfl rfl (Nat.le_trans h36 (by decide))) ?_
     obtain ⟨h37,H⟩:=gif H
     refine z0a (z1h rfl rfl (Nat.le_trans h37 (by decide))) ?_
     obtain ⟨h38,H⟩:=gif H
     refine z0a (z1h rfl rfl (Nat.le_trans h38 (by decide))) ?_
     refine qe rfl ?_
     refine ⟨rfl,?_⟩
     refine z0c ?_
     refine z0c ?_
     refine z0b hN rfl ?_
     refine qd rfl ?_
     refine z0a (z1j tyU9 rfl) ?_
     refine z0a (z29 rfl rfl) ?_
     refine z0j _ rfl (fun h39 => ?_) (fun h39 => ?_)
     ·replace H:=ift h39 H
      refine z0c ?_
      refine z0b hN rfl ?_
      refine qe rfl ?_
      refine qe rfl ?_
      refine z0m ?_
      cases H
      exact ⟨trivial,.inl rfl,.inl rfl,trivial⟩
     ·replace H:=iff_ h39 H
      refine z0l ?_
      refine z0c ?_
      refine z0b hN rfl ?_
      refine qd rfl ?_
      refine qe rfl ?_
      refine qe rfl ?_
      refine z0m ?_
      cases H
      exact ⟨trivial,.inl rfl,.inl rfl,trivial⟩
theorem x0q (n1:Int) (r:(Bool)) (H:y18 n1=some r):Fn Tryz.prog 63 [vint n1] (z1s [z01 r]):=by
 refine ⟨by kernel_rfl,z1g (us:=[z01 r]) Tryz.func63 rfl rfl rfl rfl fun X hN => ?_⟩
 unfold y18 at H
 refine z0c ?_
 refine z0b hN rfl ?_
 refine qe rfl ?_
 refine z0c ?_
 refine z0b hN rfl ?_
 refine qd rfl ?_
 refine z0a (z9w rfl rfl) ?_
 refine qd rfl ?_
 refine z5y rfl rfl (fun hc=>z0h (.dat _) rfl) ?_
 refine z5y rfl rfl (fun hc=>z04 (cnd (c:=(decide (0≤n1))) hc) rfl) ?_
 refine z0a (z11 rfl (fun hb=>(cnd (c:=(decide (0≤n1))) hb)) rfl) ?_
 refine qe rfl ?_
 refine z0m ?_
 cases H
 exact ⟨trivial,.inl rfl,trivial⟩
theorem y4g (v1:Int) (r:(Int)) (H:z7x v1=some r):Fn Tryz.prog 26 [vint v1] (z1s [vint r]):=by
 refine ⟨by kernel_rfl,z1g (us:=[vint r]) Tryz.func26 rfl rfl rfl rfl fun X hN => ?_⟩
 unfold z7x at H
 refine z0c ?_
 refine z0b hN rfl ?_
 refine qe rfl ?_
 refine z0c ?_
 refine z0c ?_
 refine z0b hN rfl ?_
 refine qd rfl ?_
 obtain ⟨r2,h3,H⟩:=bnd H
 refine z0a (z0o (x0q v1 r2 h3) ⟨.inl rfl,trivial⟩) ?_
 refine z0a (z3t rfl) ?_
 refine z0j _ rfl (fun h4 => ?_) (fun h4 => ?_)
 ·replace H:=ift h4 H
  refine z0c ?_
  refine z0b hN rfl ?_
  refine qe rfl ?_
  refine z0m ?_
  cases H
  exact ⟨trivial,.inl rfl,trivial⟩
 ·replace H:=iff_ h4 H
  refine z0l ?_
  refine z0c ?_
  refine z0b hN rfl ?_
  refine qe rfl ?_
  refine z0m ?_
  cases H
  exact ⟨trivial,.inl rfl,trivial⟩
theorem z7n (l:List z0g):Fn Tryz.prog 64 [vlst (List.map z00 l)] (z1s [vfn 103 [y1e [[vlst (List.map z00 l)]] 0 0]]):=by
 refine ⟨by kernel_rfl,z1g (us:=[vfn 103 [y1e [[vlst (List.map z00 l)]] 0 0]]) Tryz.func64 rfl rfl rfl rfl fun X hN => ?_⟩
 refine z0c ?_
 refine z0b hN rfl ?_
 refine z0k (y7k 1 rfl rfl) rfl ?_
 refine qe rfl ?_
 refine z0c ?_
 refine y37 1 [vlst (List.map z00 l)] rfl rfl ?_
 refine z0b hN rfl ?_
 refine z0a (y4u (us:=[_]) ⟨rfl,trivial⟩) ?_
 refine qe rfl ?_
 refine z0m ?_
 exact ⟨trivial,.inl rfl,trivial⟩
theorem z7f:w20 Tryz.prog 103 5 false:=by
 intro vals M l cap J Jx W hn hvn hk hc hY h0
 have hnt:Tryz.f103.ntmps=19:=rfl
 refine callsIn_of_wp Tryz.func103 rfl trivial ?_ rfl
 rw [hnt]
 obtain ⟨vc,hvc⟩:∃ vc:V,vc=vand (y1e [[vlst (vals.map fun c=>c.map vval)]] 0 0) cap:=⟨_,rfl⟩
 have hwk:Wk vc (y1e [[vlst (vals.map fun c=>c.map vval)]] 0 0):=by rw [hvc]; exact w4z _ _
 have hvm:∀ W',(y1e [[vlst (vals.map fun c=>c.map vval)]] 0 0).p W' M cap→vc.p W' M cap:=fun W' h=>by rw [hvc]; exact ⟨rfl,h⟩
 have hvo:∀ W' M' v,vc.p W' M' v→v=cap:=fun W' M' v h=>by rw [hvc] at h; exact h.1
 obtain ⟨hM,hcp⟩:=hc _ _ h0
 refine wpIn_seq (wpIn_mono (y7m (N:=19) hM ?hN ?hD [(0,vval (yv l)),(1,vc)] ?hr (Q:=fun e f=>e = .normal∧f 0 = .dat (vval (yv l))∧f 1 = .dat vc∧f 3 = .dat (vint ((vals.length:Int) - 1))) fun X hN => ?_) ?_)
 case hN=>simp
 case hD=>rfl
 case hr=>exact ⟨by simp [yv,vval],by simpa using hvm _ hcp,trivial⟩
 ·refine z0b hN rfl ?_
  refine z0a (y9l w44 rfl hwk rfl rfl) ?_
  refine z0a (z8d (C:=fun c:List Value=>c.map vval) x2t rfl) ?_
  refine z0a (y9i rfl rfl (by omega)) ?_
  refine qe rfl ?_
  exact ⟨rfl,rfl,rfl,rfl⟩
 rintro e a W1 ⟨hk1,hN,hD,f,own,g,M',hfr,rfl,e0,e1,e3⟩
 have t0:a.tmps.getD 0 undef=yv l:=by have:=hfr 0; rw [e0] at this; exact this
 have t1:a.tmps.getD 1 undef=cap:=by have:=hfr 1; rw [e1] at this; exact hvo _ _ _ this
 have t3:a.tmps.getD 3 undef = .int .i64 ((vals.length:Int) - 1):=by have:=hfr 3; rw [e3] at this; exact this
 refine wpIn_block (wpIn_loop_rounds (vals.length+1) ?_)
 have hJ1:=hk _ _ _ h0 hk1
 clear hk1 hfr e0 e1 e3 hcp hM h0
 suffices key:∀ m,m≤vals.length→∀ a W,a.tmps.size=19→a.defers=[]→a.tmps.getD 0 undef=yv l→a.tmps.getD 1 undef=cap→a.tmps.getD 3 undef = .int .i64 ((m:Int) - 1)→J m W→Code.roundsIn Fence.wide 0 Tryz.prog _ _ (m+1) a W from key _ (Nat.le_refl _) a W1 hN hD t0 t1 t3 hJ1
 clear t0 t1 t3 hN hD hJ1
 intro m
 induction m with
 | zero =>
  intro _ a W hN hD t0 t1 t3 hJ
  obtain ⟨hM,hcp⟩:=hc _ _ hJ
  rw [roundsIn_succ]
  refine wpIn_seq (wpIn_seq (wpIn_mono (y7m (N:=19) hM hN hD [(3,vint (-1))] ⟨by rw [t3]; rfl,trivial⟩ (Q:=fun e f=>e = .normal∧f 8 = .dat (z01 (decide ((0:Int)≤-1)))) fun X hN => ?_) ?_))
  ·refine z0b hN rfl ?_
   refine qd rfl ?_
   refine z0a (z9w rfl rfl) ?_
   exact ⟨rfl,rfl⟩
  rintro e a' W' ⟨hk1,hN',hD',f,own,g,M',hfr,rfl,e8⟩
  have t8:a'.tmps.getD 8 undef = .bool false:=by have:=hfr 8; rw [e8] at this; exact this
  exact wpIn_cond_false t8 (wpIn_exit ⟨hD',_,results_none rfl _ _ _,⟨_,rfl⟩,.inl (hk _ _ _ hJ hk1)⟩)
 | succ m ih =>
  intro hm a W hN hD t0 t1 t3 hJ
  obtain ⟨hM,hcp⟩:=hc _ _ hJ
  have hm3:(((m+1:Nat):Int) - 1)=(m:Int):=by omega
  rw [hm3] at t3
  rw [roundsIn_succ]
  refine wpIn_seq (wpIn_seq (wpIn_mono (y7m (N:=19) hM hN hD [(0,vval (yv l)),(1,vc),(3,vint (m:Int))] ⟨t0,by rw [t1]; exact hvm _ hcp,by rw [t3]; rfl,trivial⟩ (Q:=fun e f=>e = .normal∧f 0 = .dat (vval (yv l))∧f 1 = .dat vc∧f 3 = .dat (vint (m:Int))∧f 8 = .dat (z01 (decide ((0:Int)≤(m:Int))))) fun X hN => ?_) ?_))
  ·refine z0b hN rfl ?_
   refine qd rfl ?_
   refine z0a (z9w rfl rfl) ?_
   exact ⟨rfl,rfl,rfl,rfl,rfl⟩
  rintro e a1 W1 ⟨hk1,hN1,hD1,f,own,g,M',hfr,rfl,e0,e1,e3,e8⟩
  have u0:a1.tmps.getD 0 undef=yv l:=by have:=hfr 0; rw [e0] at this; exact this
  have u1:a1.tmps.getD 1 undef=cap:=by have:=hfr 1; rw [e1] at this; exact hvo _ _ _ this
  have u3:a1.tmps.getD 3 undef = .int .i64 (m:Int):=by have:=hfr 3; rw [e3] at this; exact this
  have u8:a1.tmps.getD 8 undef = .bool true:=by
   have:=hfr 8; rw [e8,decide_eq_true (by omega)] at this; exact this
  refine wpIn_cond_true u8 (wpIn_skip ?_)
  have hJ1:=hk _ _ _ hJ hk1
  clear hfr e0 e1 e3 e8 hk1 hJ hM hcp t0 t1 t3 hN hD
  obtain ⟨hM1,hcp1⟩:=hc _ _ hJ1
  refine wpIn_seq (wpIn_block (wpIn_seq ?_))
  refine wpIn_region ?_
  obtain ⟨X,hX⟩:∃ X:Ctx,X=⟨fun b=>M b,W1,[],19,none,[]⟩:=⟨_,rfl⟩
  have hrel:Rel X (frs (datL [(0,vval (yv l)),(1,vc),(3,vint (m:Int))])) (fun _=>none) ⟨fun _=>none,fun _ _=>none⟩ a1 W1:=by
   subst hX
   have he:Ext M (Mof ⟨fun b=>M b,W1,[],19,none,[]⟩ ⟨fun _=>none,fun _ _=>none⟩ (fun _=>none)) W1 W1:=⟨Nat.le_refl _,fun _ _ _ _=>rfl,fun b _ hb=>by
    rcases hb with hb | ⟨id,o,ho,_⟩
    ·exact hb
    ·cases ho⟩
   refine ⟨Kp.refl _ _,⟨fun b hb=>⟨hM1.1 b hb,by simp⟩,hM1.2.1,fun b hb=>⟨hM1.2.2 b hb,by simp⟩⟩,hN1,hD1,fun t=>x52 [(0,vval (yv l)),(1,vc),(3,vint (m:Int))] ⟨u0,by rw [u1]; exact vc.keep he (hvm _ hcp1),by rw [u3]; rfl,trivial⟩ t,fun id o ho=>(by cases ho),fun id _ o _ b ho=>(by cases ho),fun id o b ho=>(by cases ho),fun id _=>⟨rfl,fun _=>rfl⟩,fun id e size es h=>(by cases h)⟩
  have hNX:X.N=19:=by rw [hX]
  have hRX:X.R=none:=by rw [hX]
  have hDX:X.D=[]:=by rw [hX]
  have hKX:∀ W',Kp X.S0 X.w0 W'→Kp [] W1 W':=fun W' h=>by rw [hX] at h; exact h
  obtain ⟨el,hel⟩:∃ el,vals[m]?=some el:=⟨_,List.getElem?_eq_getElem (by omega)⟩
  have hell:(el.map vval).length=5:=by rw [List.length_map]; exact hvn el (List.mem_of_getElem? hel)
  have helm:(vals.map fun c=>c.map vval)[m]?=some (el.map vval):=by rw [List.getElem?_map,hel]; rfl
  have helD:vals.getD m []=el:=by rw [List.getD_eq_getElem?_getD,hel]; rfl
  clear hX
  refine opsR hRX (n:=6+2) rfl ?_
  refine x5z (P:=Tryz.prog) (X:=X) (by rw [hNX]; rfl) [_,_,_,_,_,_] [_,_] 0 _ _ [] _ a1 W1 rfl hrel ?_
  refine qd rfl ?_
  refine qd rfl ?_
  refine z0a (y9l w44 rfl hwk rfl rfl) ?_
  refine qd rfl ?_
  refine z0a (x1p (k:=m) y61 rfl rfl (by rw [List.length_map]; omega) (fun c hc=>by
   obtain ⟨c',hc',rfl⟩:=List.mem_map.1 hc
   rw [List.length_map]; exact hvn c' hc')) ?_
  refine z0a (y6k y4o rfl helm hell) ?_
  intro g2 a2 W2 k2
  have v0:a2.tmps.getD 0 undef=yv l:=k2.fr 0
  have v1:a2.tmps.getD 1 undef=cap:=hvo _ _ _ (k2.fr 1)
  have v3:a2.tmps.getD 3 undef = .int .i64 (m:Int):=k2.fr 3
  have v11:a2.tmps.getD 11 undef=yv l:=k2.fr 11
  have v12:a2.tmps.getD 12 undef = .int .i64 (m:Int):=k2.fr 12
  have v16:a2.tmps.getD 16 undef = .agg el.toArray:=by
   obtain ⟨lv,h1,h2,h3⟩:(vagg (el.map vval)).p W2 _ (a2.tmps.getD 16 undef):=k2.fr 16
   rw [h1]
   have:lv=el:=by
    apply List.ext_getElem?
    intro j
    rcases Nat.lt_or_ge j el.length with hj | hj
    ·obtain ⟨y,p1,p2,_⟩:=h3 j (vval el[j]) (by rw [List.getElem?_map,List.getElem?_eq_getElem hj]; rfl)
     rw [p1,List.getElem?_eq_getElem hj]; exact congrArg some p2
    ·rw [List.getElem?_eq_none hj,List.getElem?_eq_none (by rw [List.length_map] at h2; omega)]
   rw [this]
  have hN2:a2.tmps.size=19:=k2.n.trans hNX
  have hD2:a2.defers=[]:=k2.df.trans hDX
  have hJ2:=hk _ _ _ hJ1 (hKX _ k2.kp)
  clear k2 hrel
  obtain ⟨fn,tm,asg,bdy,hrun,hR⟩:=hY m W2 (by omega) hJ2
  rw [helD] at hrun
  change (Instr.yield l #[.int .i64 (m:Int),.agg el.toArray]).run Tryz.prog W2=_ at hrun
  rw [hRX]
  show wpOpsIn Fence.wide 0 Tryz.prog _ _ [6,7] a2 W2
  refine x38 rfl rfl rfl v11 (by simp [Act.eval,v12,v16]) hrun (hR.mono ?_)
  rintro e W3 (⟨rfl,hJ3⟩ | ⟨rfl,hJ3⟩)
  ·obtain ⟨hM3,hcp3⟩:=hc _ _ hJ3
   refine ⟨_,rfl,?_⟩
   obtain ⟨a3,ha3⟩:∃ a3:Act,a3=a2.put (some 17) (.bool true):=⟨_,rfl⟩
   have hN3:a3.tmps.size=19:=by rw [ha3]; simpa [Act.put] using hN2
   have hD3:a3.defers=[]:=by rw [ha3]; exact hD2
   have g3:∀ t,a3.tmps.getD t undef=if t=17 then .bool true else a2.tmps.getD t undef:=fun t=>by rw [ha3]; exact x0i hN2 (by decide) t
   show wpOpsIn Fence.wide 0 Tryz.prog _ _ (List.range' 7 1) (a2.put (some 17) (.bool true)) W3
   rw [← ha3]
   refine opsT (N:=19) (i:=7) (os:=[_]) hM3 hN3 hD3 [(0,vval (yv l)),(1,vc),(3,vint (m:Int)),(17,z01 true)] ⟨?_,?_,?_,?_,trivial⟩ (Q':=fun f=>f 0 = .dat (vval (yv l))∧f 1 = .dat vc∧f 3 = .dat (vint (m:Int))∧f 18 = .dat (z01 (!true))) rfl rfl (fun _ _ => ?_) ?_
   ·show _=_
    rw [g3,if_neg (by decide)]; exact v0
   ·rw [g3,if_neg (by decide),v1]; exact hvm _ hcp3
   ·show _=_
    rw [g3,if_neg (by decide)]; exact v3
   ·show _=_
    rw [g3,if_pos rfl]
   ·refine z0a (z3t rfl) ?_
    exact ⟨rfl,rfl,rfl,rfl⟩
   intro a4 W4 hk4 hN4 hD4 f g M' hfr ⟨e0,e1,e3,e18⟩
   have z0:a4.tmps.getD 0 undef=yv l:=by have:=hfr 0; rw [e0] at this; exact this
   have z1:a4.tmps.getD 1 undef=cap:=by have:=hfr 1; rw [e1] at this; exact hvo _ _ _ this
   have z3:a4.tmps.getD 3 undef = .int .i64 (m:Int):=by have:=hfr 3; rw [e3] at this; exact this
   have z18:a4.tmps.getD 18 undef = .bool false:=by have:=hfr 18; rw [e18] at this; exact this
   refine wpIn_cond_false z18 (wpIn_skip ?_)
   have hJ4:=hk _ _ _ hJ3 hk4
   obtain ⟨hM4,hcp4⟩:=hc _ _ hJ4
   refine wpIn_mono (y7m (N:=19) hM4 hN4 hD4 [(0,vval (yv l)),(1,vc),(3,vint (m:Int))] ⟨z0,by rw [z1]; exact hvm _ hcp4,by rw [z3]; rfl,trivial⟩ (Q:=fun e f=>e = .normal∧f 0 = .dat (vval (yv l))∧f 1 = .dat vc∧f 3 = .dat (vint ((m:Int) - 1))) fun X hN => ?_) ?_
   ·refine z0b hN rfl ?_
    refine qd rfl ?_
    refine z0a (y9i rfl rfl (by omega)) ?_
    refine qe rfl ?_
    exact ⟨rfl,rfl,rfl,rfl⟩
   rintro e a5 W5 ⟨hk5,hN5,hD5,f5,own5,g5,M5,hfr5,rfl,e0,e1,e3⟩
   exact ih (by omega) a5 W5 hN5 hD5 (by have:=hfr5 0; rw [e0] at this; exact this) (by have:=hfr5 1; rw [e1] at this; exact hvo _ _ _ this) (by have:=hfr5 3; rw [e3] at this; exact this) (hk _ _ _ hJ4 hk5)
  ·refine ⟨_,rfl,?_⟩
   obtain ⟨a3,ha3⟩:∃ a3:Act,a3=a2.put (some 17) (.bool false):=⟨_,rfl⟩
   show wpOpsIn Fence.wide 0 Tryz.prog _ _ [7] (a2.put (some 17) (.bool false)) W3
   rw [← ha3]
   have g3:∀ t,a3.tmps.getD t undef=if t=17 then .bool false else a2.tmps.getD t undef:=fun t=>by rw [ha3]; exact x0i hN2 (by decide) t
   have hN3:a3.tmps.size=19:=by rw [ha3]; simpa [Act.put] using hN2
   have hD3:a3.defers=[]:=by rw [ha3]; exact hD2
   have v17:a3.tmps.getD 17 undef = .bool false:=by rw [g3,if_pos rfl]
   rw [wpOpsIn_cons]
   unfold wpOpIn
   refine ⟨fun _ _=>trivial,?_⟩
   have hrun:∀ o:Oper,o.op = .unOp .not 4 (.tmp 17)→(o.semAt Fence.wide.round a3.eval).run Tryz.prog W3 = .ok (.value (.bool true)) W3:=fun o ho=>by
    rw [Oper.semAt_eq Fence.wide.round a3.eval o (fun c hc=>by rw [ho] at hc; cases hc)]
    have h1:a3.eval (.tmp 17) = .bool false:=v17
    simp only [execOp,ho,h1,Op.unary]
    rfl
   rw [hrun _ rfl,Oper.uponIn_value]
   have t18:(a3.put (some 18) (.bool true)).tmps.getD 18 undef = .bool true:=by rw [show (a3.put (some 18) (.bool true)).tmps=a3.tmps.setIfInBounds 18 (.bool true) from rfl,x0i hN3 (by decide),if_pos rfl]
   exact wpIn_cond_true t18 (wpIn_ret ⟨hD3,_,results_none rfl _ _ _,⟨_,rfl⟩,.inr hJ3⟩)

theorem y8r (l1:(List z0g)) (v2:Int) (r:(z0g×Bool)) (H:y2d l1 v2=some r):Fn Tryz.prog 27 [vlst (List.map z00 l1),vint v2] (z1s [vagg (z00 r.1),z01 r.2]):=by
 refine ⟨by kernel_rfl,x55 (us:=[vagg (z00 r.1),z01 r.2]) Tryz.func27 rfl rfl rfl rfl fun X hN hR => ?_⟩
 unfold y2d at H
 refine x6r hR ?_
 refine z0b hN rfl ?_
 refine z0k (y7k 1 rfl rfl) rfl ?_
 refine z0k (z3c 2 y8k rfl) rfl ?_
 refine z0k (z3c 3 tyZ4 rfl) rfl ?_
 refine x1c hR ?_
 refine z0b hN rfl ?_
 refine qd rfl ?_
 refine z0a (z0o (z7n l1) ⟨.inl rfl,trivial⟩) ?_
 refine ⟨rfl,?_⟩
 obtain ⟨h4,H⟩:=gif H
 refine w2q (s0:=()) hR hN [(3,.ptr 1 0),(4,.ptr 2 0),(5,.ptr 3 0),(9,.dat (vfn 103 [y1e [[vlst (List.map z00 l1)]] 0 0]))] [(1,.box none 3 [.dat (vint v2)]),(2,.box none 47 [.dat (vstr []),.dat (vstr []),.dat (vint 0),.dat (vint 0),.dat (vint 0)]),(3,.box none 4 [.dat (z01 false)])] (fun (s:Unit)=>[(1,.box none 3 [.dat (vint v2)]),(2,.box none 47 [.dat (vstr []),.dat (vstr []),.dat (vint 0),.dat (vint 0),.dat (vint 0)]),(3,.box none 4 [.dat (z01 false)])]) z7f (fun _=>rfl) (enters_of Tryz.func103 (by kernel_rfl) rfl) rfl h4 H ⟨rfl,rfl,rfl,rfl,trivial⟩ ⟨rfl,rfl,rfl,trivial⟩ rfl rfl (fun _=>rfl) (fun _=>rfl) (fun _ _=>rfl) (fun _ _=>rfl) (fun _=>rfl) (fun _=>rfl) (by decide) (by decide) ?_ ?_
 ·rintro A X k5 x6 ⟨⟩ q3 hN h7 h8 H hq3
  replace H:y26 v2 k5 x6=some q3:=H
  unfold y26 at H
  refine z0b hN rfl ?_
  refine z0k (z3c 4 y8k rfl) rfl ?_
  refine z0k (z1f y4o rfl rfl rfl rfl) rfl ?_
  refine ⟨rfl,[(3,.ptr 1 0),(4,.ptr 2 0),(5,.ptr 3 0),(7,.ptr 4 0)],[(1,.box (some (A 1)) 3 [.dat (vint v2)]),(2,.box (some (A 2)) 47 [.dat (vstr []),.dat (vstr []),.dat (vint 0),.dat (vint 0),.dat (vint 0)]),(3,.box (some (A 3)) 4 [.dat (z01 false)]),(4,.box none 47 [.dat (vstr x6.Id),.dat (vstr x6.Secret),.dat (vint x6.From),.dat (vint x6.To),.dat (vint x6.Until)])],⟨rfl,rfl,rfl,rfl,trivial⟩,⟨rfl,rfl,rfl,rfl,trivial⟩,rfl,rfl,rfl,fun X hN => ?_⟩
  refine z0u ?_
  refine z0c ?_
  refine z0b hN rfl ?_
  refine z0a (z0r y4b rfl) ?_
  refine z0y (z0s tyS3 rfl rfl) rfl ?_
  refine z0y (z0s tyS3 rfl rfl) rfl ?_
  refine z0a (z9i rfl rfl) ?_
  refine qd rfl ?_
  refine x1s rfl rfl (fun hc=>z0s tyS3 rfl rfl) rfl y6z ?_
  refine z5y rfl rfl (fun hc=>z0r y5l rfl) ?_
  refine x1s rfl rfl (fun hc=>z0s tyS3 (cnd (c:=(decide (x6.From≤v2))) hc) rfl) rfl y6z ?_
  refine z5y rfl rfl (fun hc=>z04 (cnd (c:=(decide (x6.From≤v2))) hc) (cnd (c:=(decide (x6.From≤v2))) hc)) ?_
  refine z0a (z11 rfl (fun hb=>(cnd (c:=(decide (x6.From≤v2))) hb)) rfl) ?_
  refine z0j _ rfl (fun h9 => ?_) (fun h9 => ?_)
  ·replace H:=ift h9 H
   refine z0c ?_
   refine z0b hN rfl ?_
   refine z0y (z5v y4o rfl rfl rfl) rfl ?_
   refine z0k (z1f y4o rfl rfl rfl rfl) rfl ?_
   refine z0k (z1m tyS4 rfl rfl rfl rfl) rfl ?_
   refine z0m ?_
   replace H:=retl H hq3
   cases H
   exact ⟨[(1,.box none 3 [.dat (vint v2)]),(2,.box none 47 [.dat (vstr x6.Id),.dat (vstr x6.Secret),.dat (vint x6.From),.dat (vint x6.To),.dat (vint x6.Until)]),(3,.box none 4 [.dat (z01 true)])],rfl,rfl,rfl,rfl,⟨rfl,rfl,rfl,trivial⟩,⟨.inl ⟨_,_,_,z00 x6,rfl,rfl,rfl,rfl,y4o⟩,.inr ⟨_,_,rfl,rfl,tyS4⟩,trivial⟩⟩
  ·replace H:=iff_ h9 H
   refine z0l ?_
   exact ⟨_,z9s H,⟨rfl,rfl,rfl,trivial⟩⟩
 ·rintro A X ⟨⟩ hN hR H
  replace H:y27=some r:=H
  unfold y27 at H
  refine z0c ?_
  refine z0b hN rfl ?_
  refine z0a (z09 (u':=vagg (z00 (z0g.mk [] [] 0 0 0))) (z3z [] y8k w25 rfl trivial) rfl) ?_
  refine z0k (z1f y4o rfl rfl rfl rfl) rfl ?_
  refine z0k (z1m tyS4 rfl rfl rfl rfl) rfl ?_
  refine z0m ?_
  cases H
  exact ⟨.inr rfl,[(4,.ptr 2 0),(5,.ptr 3 0)],[(2,.box (some (A 2)) 47 [.dat (vstr []),.dat (vstr []),.dat (vint 0),.dat (vint 0),.dat (vint 0)]),(3,.box (some (A 3)) 4 [.dat (z01 false)])],⟨rfl,rfl,trivial⟩,⟨rfl,rfl,trivial⟩,rfl,rfl,⟨.inl ⟨_,_,_,z00 (z0g.mk [] [] 0 0 0),rfl,rfl,rfl,rfl,y4o⟩,.inr ⟨_,_,rfl,rfl,tyS4⟩,trivial⟩⟩
theorem y43 (s1:Bs) (r:(Bs)) (H:z69 s1=some r):Fn Tryz.prog 28 [vstr s1] (z1s [vstr r]):=by
 refine ⟨by kernel_rfl,z1g (us:=[vstr r]) Tryz.func28 rfl rfl rfl rfl fun X hN => ?_⟩
 unfold z69 at H
 refine z0c ?_
 refine z0b hN rfl ?_
 refine qe rfl ?_
 refine z0c ?_
 refine z0b hN rfl ?_
 refine qe rfl ?_
 refine z0z (ι:=(List Int)) (fun i=>[(3,.row 1 i.length)]) (fun i=>[(1,.row 5 1 (List.map z4z i))]) (fun i=>y1j i=some r) (fun i=>rfl) ?_ ?_
 ·skip
  refine z0u ?_
  refine y2l 3 1 5 1 rfl rfl rfl ?_
  refine y36 (fun (s:Bs×(List Int))=>[(0,.dat (vstr s.1)),(3,.row 1 s.2.length)]) (fun (s:Bs×(List Int))=>[(1,.row 5 1 (List.map z4z s.2))]) (s1,[]) H ⟨rfl,rfl,trivial⟩ ⟨rfl,trivial⟩ (fun _=>rfl) ?_
  rintro ⟨s2,l3⟩ q4 H hq4
  replace H:z16 s2 l3=some q4:=H
  unfold z16 at H
  refine z0c ?_
  refine z0c ?_
  refine z0b hN rfl ?_
  refine qd rfl ?_
  refine z0a (z1j tyU9 rfl) ?_
  refine z0a (z29 rfl rfl) ?_
  refine z0j _ rfl (fun h5 => ?_) (fun h5 => ?_)
  ·replace H:=ift h5 H
   refine z0l ?_
   refine z0u ?_
   refine z0c ?_
   refine z0b hN rfl ?_
   refine qd rfl ?_
   refine z0a (z1j tyU9 rfl) ?_
   refine z0a (x4j rfl rfl) ?_
   refine qe rfl ?_
   refine z0c ?_
   refine z0b hN rfl ?_
   refine qe rfl ?_
   refine z0c ?_
   refine z0c ?_
   refine z0b hN rfl ?_
   refine qd rfl ?_
   refine z0u ?_
   obtain ⟨h9,H⟩:=gif H
   refine y54 (fun (k7:Nat) (s:Int)=>[(0,.dat (vstr s2)),(3,.row 1 l3.length),(4,.dat (vint (min 3 (s2.length:Int)))),(5,.dat (vint s)),(14,.dat (vint (k7:Int)))]) (fun (k7:Nat) (s:Int)=>[(1,.row 5 1 (List.map z4z l3))]) 0 H ⟨rfl,rfl,rfl,rfl,rfl,trivial⟩ ⟨rfl,trivial⟩ (fun _ _=>rfl) ?_ ?_
   ·rintro x6 H
    replace H:y1k s2 l3 x6=some q4:=H
    unfold y1k at H
    refine z0c ?_
    refine z0b hN rfl ?_
    refine z0a (z04 rfl rfl) ?_
    refine z0c ?_
    refine z0j _ rfl (fun h=>(lt_t h).elim) (fun h => ?_)
    refine z14 ?_
    refine z0c ?_
    refine z0c ?_
    refine z0b hN rfl ?_
    refine qd rfl ?_
    refine z0a (z1a _ rfl rfl (.inl ⟨rfl,rfl⟩)) ?_
    refine qd rfl ?_
    refine z0u ?_
    obtain ⟨h13,H⟩:=gif H
    refine y54 (fun (k11:Nat) (s:(List Int))=>[(0,.dat (vstr s2)),(3,.row 1 s.length),(4,.dat (vint (min 3 (s2.length:Int)))),(5,.dat (vint x6)),(30,.dat (vint (wr ((min 3 (s2.length:Int))+1)))),(31,.dat (vint (k11:Int)))]) (fun (k11:Nat) (s:(List Int))=>[(1,.row 5 1 (List.map z4z s))]) l3 H ⟨rfl,rfl,rfl,rfl,rfl,rfl,trivial⟩ ⟨rfl,trivial⟩ (fun _ _=>rfl) ?_ ?_
    ·rintro l10 H
     replace H:z9d s2 l10=some q4:=H
     unfold z9d at H
     refine z0c ?_
     refine z0b hN rfl ?_
     refine z0a (z04 rfl rfl) ?_
     refine z0c ?_
     refine z0j _ rfl (fun h=>(x86 h).elim) (fun h => ?_)
     refine z14 ?_
     refine z0b hN rfl ?_
     refine qd rfl ?_
     refine qd rfl ?_
     obtain ⟨l14,h15,H⟩:=bnd H
     refine z0a (y0h tyU9 rfl rfl rfl h15) ?_
     refine qe rfl ?_
     exact ⟨_,z9s H,⟨rfl,rfl,trivial⟩,⟨rfl,trivial⟩⟩
    ·rintro k11 l10 q12 h16 H hq12
     replace H:z9b x6 k11 l10=some q12:=H
     unfold z9b at H
     refine z0c ?_
     refine z0b hN rfl ?_
     refine z0a (z04 rfl rfl) ?_
     refine z0c ?_
     refine z0j _ rfl (fun h => ?_) (fun h=>(x87 h16 h).elim)
     refine z0l ?_
     refine z0c ?_
     refine z0u ?_
     refine z0c ?_
     refine z0b hN rfl ?_
     refine qd rfl ?_
     refine qe rfl ?_
     refine z0b hN rfl ?_
     refine z0a (z0h (.row _ _) rfl) ?_
     refine qd rfl ?_
     refine qd rfl ?_
     refine z0a (z1a _ rfl rfl (.inr (.inr ⟨rfl,rfl⟩))) ?_
     refine z0a (z1a _ rfl rfl (.inr (.inl ⟨rfl,rfl⟩))) ?_
     obtain ⟨h17,H⟩:=gif H
     refine z0a (z09 (y9j rfl rfl h17) rfl) ?_
     refine z0a (z09 (x4p rfl rfl) rfl) ?_
     obtain ⟨x18,h19,H⟩:=bnd H
     refine z0a (y5p tyU9 rfl rfl h19) ?_
     refine z0a (z09 (u':=vlst (List.map z4z [(x18.toNat:Int)])) (z2g [[_]] x6x ⟨rfl,.inl ⟨_,rfl,rfl,rfl⟩,rfl,trivial⟩ rfl rfl) rfl) ?_
     obtain ⟨h20,H⟩:=gif H
     refine z0k (y8m x6x (fun _=>rfl) rfl rfl rfl ⟨by simp,by first | (simp; done) | simpa using h20⟩ rfl) rfl ?_
     refine z0a (z2b (.row _ _) rfl) ?_
     refine z0b hN rfl ?_
     refine z0a (z5w rfl rfl (by omega)) ?_
     refine qd rfl ?_
     exact ⟨_,z9s H,⟨rfl,rfl,rfl,rfl,rfl,rfl,trivial⟩,⟨rfl,trivial⟩⟩
   ·rintro k7 x6 q8 h21 H hq8
    replace H:z6e s2 k7 x6=some q8:=H
    unfold z6e at H
    refine z0c ?_
    refine z0b hN rfl ?_
    refine z0a (z04 rfl rfl) ?_
    refine z0c ?_
    refine z0j _ rfl (fun h => ?_) (fun h=>(lt_f h21 h).elim)
    refine z0l ?_
    refine z0z (ι:=Int) (fun i=>[(0,.dat (vstr s2)),(3,.row 1 l3.length),(4,.dat (vint (min 3 (s2.length:Int)))),(5,.dat (vint i)),(14,.dat (vint (k7:Int)))]) (fun i=>[(1,.row 5 1 (List.map z4z l3))]) (fun i=>z9c i=some q8) (fun i=>rfl) ?_ ?_
    ·skip
     refine z0u ?_
     refine z0c ?_
     refine z0b hN rfl ?_
     refine qd rfl ?_
     refine qe rfl ?_
     refine z0c ?_
     refine z0b hN rfl ?_
     refine qd rfl ?_
     refine z0a (z09 (x1o rfl rfl (by decide)) rfl) ?_
     refine qe rfl ?_
     refine z0c ?_
     refine z0b hN rfl ?_
     refine qd rfl ?_
     refine qd rfl ?_
     refine z0a (z04 rfl rfl) ?_
     refine z0j _ rfl (fun h22 => ?_) (fun h22 => ?_)
     ·replace H:=ift h22 H
      refine z0b hN rfl ?_
      refine qd rfl ?_
      refine qd rfl ?_
      refine qd rfl ?_
      obtain ⟨x23,h24,H⟩:=bnd H
      refine z0a (z9h tyU9 rfl rfl h24) ?_
      refine z0a (z6k tyU5 tyU3 rfl) ?_
      refine z0a (z09 (x75 rfl rfl) rfl) ?_
      refine qe rfl ?_
      exact ⟨(or_ .i64 (shl_ .i64 x6 8) (IntKind.wrap .i64 (x23.toNat:Int))),H,⟨rfl,rfl,rfl,rfl,rfl,trivial⟩,⟨rfl,trivial⟩⟩
     ·replace H:=iff_ h22 H
      refine z0l ?_
      exact ⟨(shl_ .i64 x6 8),H,⟨rfl,rfl,rfl,rfl,rfl,trivial⟩,⟨rfl,trivial⟩⟩
    ·rintro x25 H
     replace H:z9c x25=some q8:=H
     unfold z9c at H
     refine z0b hN rfl ?_
     refine z0a (z5w rfl rfl (by omega)) ?_
     refine qd rfl ?_
     exact ⟨_,z9s H,⟨rfl,rfl,rfl,rfl,rfl,trivial⟩,⟨rfl,trivial⟩⟩
  ·replace H:=iff_ h5 H
   refine z14 ?_
   replace H:=outl H hq4
   exact ⟨l3,H,⟨rfl,trivial⟩,⟨rfl,trivial⟩⟩
 ·rintro out26 H
  replace H:y1j out26=some r:=H
  unfold y1j at H
  refine z0c ?_
  refine y8y 3 1 rfl rfl rfl ?_
  refine z0b hN rfl ?_
  refine qd rfl ?_
  refine z0a (y49 (C:=z4z) x0k tyU5 tyU9 (fun _=>rfl) rfl) ?_
  refine qe rfl ?_
  refine z0m ?_
  cases H
  exact ⟨trivial,.inl rfl,trivial⟩
theorem y2j (i1:Int) (r:(Bs)) (H:z8l i1=some r):Fn Tryz.prog 134 [vint i1] (z1s [vstr r]):=by
 refine ⟨by kernel_rfl,z1g (us:=[vstr r]) Tryz.func134 rfl rfl rfl rfl fun X hN => ?_⟩
 unfold z8l at H
 refine z0c ?_
 refine z0b hN rfl ?_
 refine qe rfl ?_
 refine z0c ?_
 refine z0c ?_
 refine z0b hN rfl ?_
 refine qd rfl ?_
 refine z0a (z04 rfl rfl) ?_
 refine z0j _ rfl (fun h2 => ?_) (fun h2 => ?_)
 ·replace H:=ift h2 H
  refine z0c ?_
  refine z0b hN rfl ?_
  refine qd rfl ?_
  refine qd rfl ?_
  refine z0a (z1a _ rfl rfl (.inl ⟨rfl,rfl⟩)) ?_
  obtain ⟨l3,h4,H⟩:=bnd H
  refine z0a (y0h tyU9 rfl rfl rfl h4) ?_
  refine qe rfl ?_
  refine z0m ?_
  cases H
  exact ⟨trivial,.inl rfl,trivial⟩
 ·replace H:=iff_ h2 H
  refine z0l ?_
  refine z0c ?_
  refine z0b hN rfl ?_
  refine qd rfl ?_
  refine z0a (z1a _ rfl rfl (.inr (.inr ⟨rfl,rfl⟩))) ?_
  refine qd rfl ?_
  refine z0a (z1a _ rfl rfl (.inr (.inr ⟨rfl,rfl⟩))) ?_
  refine z0a (z1a _ rfl rfl (.inl ⟨rfl,rfl⟩)) ?_
  obtain ⟨l5,h6,H⟩:=bnd H
  refine z0a (y0h tyU9 rfl rfl rfl h6) ?_
  refine qe rfl ?_
  refine z0m ?_
  cases H
  exact ⟨trivial,.inl rfl,trivial⟩
theorem y3d (x1:Int) (r:(Bool)) (H:z30 x1=some r):Fn Tryz.prog 167 [vint x1] (z1s [z01 r]):=by
 refine ⟨by kernel_rfl,z1g (us:=[z01 r]) Tryz.func167 rfl rfl rfl rfl fun X hN => ?_⟩
 unfold z30 at H
 refine z0c ?_
 refine z0b hN rfl ?_
 refine qe rfl ?_
 refine z0c ?_
 refine z0b hN rfl ?_
 refine qd rfl ?_
 refine qd rfl ?_
 refine z0a (z1a _ rfl rfl (.inr (.inl ⟨rfl,rfl⟩))) ?_
 refine z0a (z09 (x4p rfl rfl) rfl) ?_
 refine z0a (z2a rfl rfl) ?_
 refine qe rfl ?_
 refine z0m ?_
 cases H
 exact ⟨trivial,.inl rfl,trivial⟩
theorem y6t (x r:Int) (H:z7m x=some r):Fn Tryz.prog 168 [vval (.int .u64 x)] (z1s [vint r]):=by
 obtain ⟨h0,h1,rfl⟩:=w24 H
 obtain ⟨n,rfl⟩:=Int.eq_ofNat_of_zero_le h0
 refine y1t (by kernel_rfl) fun M w vs hM h => ?_
 have hv:=y3w (us:=[.int .u64 (n:Int)]) h
 subst hv
 refine (Any7.bits_TrailingZeros Tryz.tz168 n (by omega) w (fun _=>w0y hM)).mono ?_
 rintro e w' ⟨rfl,rfl⟩
 exact ⟨_,rfl,rfl,Kp.refl _ _⟩
end Go.Proofs.YtkckjgkfljgjpaaGreatDoor
