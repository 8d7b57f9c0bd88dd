/- The cache of at most one entry: walks of its own functions. -/
import Derived.Test.YtahcnngcpjkpgabGreatDoorZww8
import Derived.Test.YtahcnngcpjkpgabGreatDoorCch
namespace Go.Proofs.YtahcnngcpjkpgabGreatDoor
open Go.RowKit
set_option linter.unusedVariables false
set_option maxRecDepth 100000
abbrev jq (an:Option Nat) (m s n:Int) (l:Slot):AObj := .box an 85 [.dat (vint m),.dat (vint s),.dat (vint n),l]
abbrev Wg (an:Option Nat) (K:wx):AObj := .box an 110 ((y5a K).map .dat)
abbrev uL:Nat→V:=fun b=>vlst [[vval (PB b)]]
abbrev vN:V:=vval (.pointer none)
theorem ju {b c:Bool} (h:b=c):zi b=zi c:=by rw [h]
theorem w52:FnG Tryz.prog 8 [.dat (vint 5),.dat (vint 100000)] [] (.comp true [.ptr 1 0,.dat (vint 0)]) [(1,jq none 5 100000 0 (.dat vnil))]:=by
 refine vy (by kernel_rfl) Tryz.func8 rfl rfl rfl rfl fun X A hN => ?_
 refine zd ?_
 refine zj hN rfl ?_
 refine qe rfl ?_
 refine qe rfl ?_
 refine zd ?_
 refine zd ?_
 refine zj hN rfl ?_
 refine qd rfl ?_
 refine za (zo (z0w 5 1 1000 false rfl) ⟨.inl rfl,.inl rfl,.inl rfl,trivial⟩) ?_
 refine qd rfl ?_
 refine zf rfl rfl rfl (ze (.dat _) rfl) ?_
 refine zf rfl rfl rfl (zo (z0w 100000 1 10000000 false rfl) ⟨.inl rfl,.inl rfl,.inl rfl,trivial⟩) ?_
 refine za (zv rfl rfl rfl) ?_
 refine zh false rfl (fun h=>(by cases h)) (fun h => ?_)
 refine zn ?_
 refine zd ?_
 refine zj hN rfl ?_
 refine qd rfl ?_
 refine qd rfl ?_
 refine za (qw [(0,[_]),(1,[_])] w0c w0l rfl ⟨rfl,.inl ⟨_,rfl,rfl,rfl⟩,rfl,rfl,.inl ⟨_,rfl,rfl,rfl⟩,rfl,trivial⟩) ?_
 refine zl (we 1 rfl) rfl ?_
 refine za (qs (.ptr _ _) rfl) ?_
 refine qe rfl ?_
 refine zk ?_
 exact ⟨trivial,[(4,.ptr 1 0),(5,.dat (vint 0))],⟨rfl,rfl,trivial⟩,⟨rfl,trivial⟩,rfl,.inr (.inr ⟨.ptr 1 0,.dat (vint 0),[],⟨rfl,rfl,trivial⟩,rfl⟩)⟩
theorem w53 (u:V):Fn Tryz.prog 179 [vlst [],u] (zr [vint (-1)]):=by
 refine ⟨by kernel_rfl,yf (us:=[vint (-1)]) Tryz.func179 rfl rfl rfl rfl fun X hN => ?_⟩
 refine zd ?_
 refine zj hN rfl ?_
 refine qe rfl ?_
 refine zd ?_
 refine zd ?_
 refine zj hN rfl ?_
 refine qd rfl ?_
 refine za (z1p Zk rfl) ?_
 refine qd rfl ?_
 refine yc ?_
 refine Wi 1 ?_
 refine awpr ?_
 refine zd ?_
 refine zj hN rfl ?_
 refine za (ye rfl rfl) ?_
 refine zd ?_
 refine zh false rfl (fun h=>(by cases h)) (fun h => ?_)
 refine yz ?_
 refine zd ?_
 refine zj hN rfl ?_
 refine qe rfl ?_
 refine zk ?_
 exact ⟨trivial,⟨.inl rfl,trivial⟩⟩
theorem w56 (u:V):Fn Tryz.prog 115 [vnil,u] (zr [vnil]):=by
 refine ⟨by kernel_rfl,yf (us:=[vnil]) Tryz.func115 rfl rfl rfl rfl fun X hN => ?_⟩
 refine zd ?_
 refine zj hN rfl ?_
 refine qe rfl ?_
 refine zd ?_
 refine zj hN rfl ?_
 refine qd rfl ?_
 refine qd rfl ?_
 refine za (zo (w53 u) ⟨.inr ⟨rfl,rfl⟩,.inl rfl,trivial⟩) ?_
 refine qe rfl ?_
 refine zd ?_
 refine zd ?_
 refine zj hN rfl ?_
 refine qd rfl ?_
 refine za (yq rfl rfl) ?_
 refine zh true rfl (fun h => ?_) (fun h=>(by cases h))
 refine zd ?_
 refine zj hN rfl ?_
 refine qd rfl ?_
 refine qe rfl ?_
 refine zk ?_
 exact ⟨trivial,⟨.inl rfl,trivial⟩⟩
theorem x5p (m s n:Int) (u:V):FnG Tryz.prog 47 [.ptr 0 0,.dat u] [(0,jq (some 0) m s n (.dat vnil))] (.dat (vint 0)) [(0,jq (some 0) m s n (.dat vnil))]:=by
 refine vy (by kernel_rfl) Tryz.func47 rfl rfl rfl rfl fun X A hN => ?_
 refine zd ?_
 refine zj hN rfl ?_
 refine qe rfl ?_
 refine zd ?_
 refine zj hN rfl ?_
 refine za (ze (.ptr _ _) rfl) ?_
 refine za (qn rfl) ?_
 refine za (zq ux rfl) ?_
 refine zm (zt uw rfl rfl) rfl ?_
 refine za (z8b Zk rfl) ?_
 refine qe rfl ?_
 refine zd ?_
 refine zj hN rfl ?_
 refine za (ze (.ptr _ _) rfl) ?_
 refine za (ze (.ptr _ _) rfl) ?_
 refine za (qn rfl) ?_
 refine za (zq ux rfl) ?_
 refine zm (zt uw rfl rfl) rfl ?_
 refine qd rfl ?_
 refine za (zo (w56 u) ⟨.inl rfl,.inl rfl,trivial⟩) ?_
 refine za (qn rfl) ?_
 refine za (zq ux rfl) ?_
 refine zl (jn uw rfl rfl rfl rfl) rfl ?_
 refine zd ?_
 refine zj hN rfl ?_
 refine qd rfl ?_
 refine za (ze (.ptr _ _) rfl) ?_
 refine za (qn rfl) ?_
 refine za (zq ux rfl) ?_
 refine zm (zt uw rfl rfl) rfl ?_
 refine za (z8b Zk rfl) ?_
 refine za (x2d rfl rfl (by omega)) ?_
 refine qe rfl ?_
 refine zk ?_
 exact ⟨trivial,[(4,.dat (vint 0))],⟨rfl,trivial⟩,⟨rfl,trivial⟩,rfl,.inl ⟨[vint 0],⟨rfl,trivial⟩,rfl⟩⟩
theorem x5o (m s n:Int) (a:zw):FnG Tryz.prog 57 [.ptr 0 0,.dat (vagg (qq a))] [(0,jq (some 0) m s n (.dat vnil))] (.dat vN) [(0,jq (some 0) m s n (.dat vnil))]:=by
 refine vy (by kernel_rfl) Tryz.func57 rfl rfl rfl rfl fun X A hN => ?_
 refine zd ?_
 refine zj hN rfl ?_
 refine zl (we 1 rfl) rfl ?_
 refine qe rfl ?_
 refine zd ?_
 refine zj hN rfl ?_
 refine qe rfl ?_
 refine zd ?_
 refine zd ?_
 refine zj hN rfl ?_
 refine za (ze (.ptr _ _) rfl) ?_
 refine za (qn rfl) ?_
 refine za (zq ux rfl) ?_
 refine zm (zt uw rfl rfl) rfl ?_
 refine za (z8b Zk rfl) ?_
 refine qd rfl ?_
 refine yc ?_
 refine Wi 1 ?_
 refine awpr ?_
 refine zd ?_
 refine zj hN rfl ?_
 refine za (ye rfl rfl) ?_
 refine zd ?_
 refine zh false rfl (fun h=>(by cases h)) (fun h => ?_)
 refine yz ?_
 refine zd ?_
 refine zj hN rfl ?_
 refine qd rfl ?_
 refine qe rfl ?_
 refine zk ?_
 exact ⟨trivial,[(4,.dat vN)],⟨rfl,trivial⟩,⟨rfl,trivial⟩,rfl,.inl ⟨[vN],⟨rfl,trivial⟩,rfl⟩⟩
theorem w50 (m s n:Int) (K:wx) (a:zw) (H:z0u K.own_ K.Entry.Response a=some true):FnG Tryz.prog 57 [.ptr 0 0,.dat (vagg (qq a))] [(0,jq (some 0) m s n (.dr 1 uL)),(1,Wg (some 0) K)] (.ptr 1 0) [(0,jq (some 0) m s n (.dr 1 uL)),(1,Wg (some 0) K)]:=by
 refine vy (by kernel_rfl) Tryz.func57 rfl rfl rfl rfl fun X A hN => ?_
 refine Wh 0 3 1 (A.bl 1) (.dat (vlst [[vval (PB (A.bl 1))]])) rfl rfl rfl (fun g w M v hb h=>y18 (u:=uL) hb h) ?_
 refine zd ?_
 refine zj hN rfl ?_
 refine zl (we 2 rfl) rfl ?_
 refine qe rfl ?_
 refine zd ?_
 refine zj hN rfl ?_
 refine qe rfl ?_
 refine zd ?_
 refine zd ?_
 refine zj hN rfl ?_
 refine za (ze (.ptr _ _) rfl) ?_
 refine za (qn rfl) ?_
 refine za (zq ux rfl) ?_
 refine zm (zt uw rfl rfl) rfl ?_
 refine za (z1p Zk rfl) ?_
 refine qd rfl ?_
 refine yc ?_
 refine Wi 2 ?_
 refine awpr ?_
 refine zd ?_
 refine zj hN rfl ?_
 refine za (ye rfl rfl) ?_
 refine zd ?_
 refine zh true rfl (fun h => ?_) (fun h=>(by cases h))
 refine zn ?_
 refine zd ?_
 refine yc ?_
 refine zd ?_
 refine zj hN rfl ?_
 refine za (z8c y1l rfl rfl ⟨by simp,by simp⟩ (fun el h=>by simp at h; subst h; rfl)) ?_
 refine za (wh y1e rfl (by first | assumption | rfl) rfl) ?_
 refine qe rfl ?_
 refine zd ?_
 refine z7c 7 1 (A.bl 1) (.ptr 1 0) rfl (fun g w M v hb h=>y19 hb h) ?_
 refine ww mixed hN rfl rfl ?_
 refine za (ze (.ptr _ _) rfl) ?_
 refine za (qn rfl) ?_
 refine za (zq x1r rfl) ?_
 refine zm (yr qa rfl rfl rfl) rfl ?_
 refine za (ze (.ptr _ _) rfl) ?_
 refine za (qn rfl) ?_
 refine za (zq Wn rfl) ?_
 refine za (zq z1j rfl) ?_
 refine zm (yr qg rfl rfl rfl) rfl ?_
 refine zm (yr qa rfl rfl rfl) rfl ?_
 refine za (zo (x6l _ _ _ _ H) ⟨.inl rfl,.inl rfl,.inl rfl,trivial⟩) ?_
 refine qd rfl ?_
 refine zf rfl rfl rfl (ze (.dat _) rfl) ?_
 refine zf rfl rfl rfl (w1z Yc rfl) ?_
 refine zf rfl rfl rfl (ze (.dat _) rfl) ?_
 refine zc rfl rfl rfl ?_
 refine zc rfl rfl rfl ?_
 refine zc rfl rfl rfl ?_
 refine zc rfl rfl rfl ?_
 refine zc rfl rfl rfl ?_
 refine zc rfl rfl rfl ?_
 refine zc rfl rfl rfl ?_
 refine zc rfl rfl rfl ?_
 refine zc rfl rfl rfl ?_
 refine zc rfl rfl rfl ?_
 refine zc rfl rfl rfl ?_
 refine zf rfl rfl rfl (ya rfl rfl rfl) ?_
 refine za (ya rfl rfl rfl) ?_
 refine ⟨rfl,?_⟩
 refine zh true rfl (fun h => ?_) (fun h=>(by cases h))
 refine zj hN rfl ?_
 refine za (ze (.ptr _ _) rfl) ?_
 refine za (qs (.ptr _ _) rfl) ?_
 refine zj hN rfl ?_
 refine za (qy rfl rfl (by omega)) ?_
 refine qd rfl ?_
 refine awpr ?_
 refine zd ?_
 refine zj hN rfl ?_
 refine za (ye rfl rfl) ?_
 refine zd ?_
 refine zh false rfl (fun h=>(by cases h)) (fun h => ?_)
 refine yz ?_
 refine zd ?_
 refine Wh 0 3 1 (A.bl 1) (.dr 1 uL) rfl rfl rfl (fun g w M v hb h=>z8i (u:=uL) hb h) ?_
 refine zj hN rfl ?_
 refine za (ze (.ptr _ _) rfl) ?_
 refine za (qs (.ptr _ _) rfl) ?_
 refine zk ?_
 exact ⟨trivial,[(4,.ptr 1 0)],⟨rfl,trivial⟩,⟨rfl,rfl,trivial⟩,rfl,.inr (.inl ⟨4,rfl,rfl⟩)⟩
theorem w51 (m s n:Int) (K:wx) (a:zw) (H:z0u K.own_ K.Entry.Response a=some false):FnG Tryz.prog 57 [.ptr 0 0,.dat (vagg (qq a))] [(0,jq (some 0) m s n (.dr 1 uL)),(1,Wg (some 0) K)] (.dat vN) [(0,jq (some 0) m s n (.dr 1 uL)),(1,Wg (some 0) K)]:=by
 refine vy (by kernel_rfl) Tryz.func57 rfl rfl rfl rfl fun X A hN => ?_
 refine Wh 0 3 1 (A.bl 1) (.dat (vlst [[vval (PB (A.bl 1))]])) rfl rfl rfl (fun g w M v hb h=>y18 (u:=uL) hb h) ?_
 refine zd ?_
 refine zj hN rfl ?_
 refine zl (we 2 rfl) rfl ?_
 refine qe rfl ?_
 refine zd ?_
 refine zj hN rfl ?_
 refine qe rfl ?_
 refine zd ?_
 refine zd ?_
 refine zj hN rfl ?_
 refine za (ze (.ptr _ _) rfl) ?_
 refine za (qn rfl) ?_
 refine za (zq ux rfl) ?_
 refine zm (zt uw rfl rfl) rfl ?_
 refine za (z1p Zk rfl) ?_
 refine qd rfl ?_
 refine yc ?_
 refine Wi 2 ?_
 refine awpr ?_
 refine zd ?_
 refine zj hN rfl ?_
 refine za (ye rfl rfl) ?_
 refine zd ?_
 refine zh true rfl (fun h => ?_) (fun h=>(by cases h))
 refine zn ?_
 refine zd ?_
 refine yc ?_
 refine zd ?_
 refine zj hN rfl ?_
 refine za (z8c y1l rfl rfl ⟨by simp,by simp⟩ (fun el h=>by simp at h; subst h; rfl)) ?_
 refine za (wh y1e rfl (by first | assumption | rfl) rfl) ?_
 refine qe rfl ?_
 refine zd ?_
 refine z7c 7 1 (A.bl 1) (.ptr 1 0) rfl (fun g w M v hb h=>y19 hb h) ?_
 refine ww mixed hN rfl rfl ?_
 refine za (ze (.ptr _ _) rfl) ?_
 refine za (qn rfl) ?_
 refine za (zq x1r rfl) ?_
 refine zm (yr qa rfl rfl rfl) rfl ?_
 refine za (ze (.ptr _ _) rfl) ?_
 refine za (qn rfl) ?_
 refine za (zq Wn rfl) ?_
 refine za (zq z1j rfl) ?_
 refine zm (yr qg rfl rfl rfl) rfl ?_
 refine zm (yr qa rfl rfl rfl) rfl ?_
 refine za (zo (x6l _ _ _ _ H) ⟨.inl rfl,.inl rfl,.inl rfl,trivial⟩) ?_
 refine qd rfl ?_
 refine zc rfl rfl rfl ?_
 refine zc rfl rfl rfl ?_
 refine zc rfl rfl rfl ?_
 refine yj rfl rfl ?_
 refine yj rfl rfl ?_
 refine yj rfl rfl ?_
 refine yj rfl rfl ?_
 refine yj rfl rfl ?_
 refine yj rfl rfl ?_
 refine yj rfl rfl ?_
 refine yj rfl rfl ?_
 refine yj rfl rfl ?_
 refine yj rfl rfl ?_
 refine yj rfl rfl ?_
 refine zc rfl rfl rfl ?_
 refine za (zv rfl rfl rfl) ?_
 refine ⟨rfl,?_⟩
 refine zh false rfl (fun h=>(by cases h)) (fun h => ?_)
 refine zn ?_
 refine zj hN rfl ?_
 refine za (qy rfl rfl (by omega)) ?_
 refine qd rfl ?_
 refine awpr ?_
 refine zd ?_
 refine zj hN rfl ?_
 refine za (ye rfl rfl) ?_
 refine zd ?_
 refine zh false rfl (fun h=>(by cases h)) (fun h => ?_)
 refine yz ?_
 refine zd ?_
 refine Wh 0 3 1 (A.bl 1) (.dr 1 uL) rfl rfl rfl (fun g w M v hb h=>z8i (u:=uL) hb h) ?_
 refine zj hN rfl ?_
 refine qd rfl ?_
 refine qe rfl ?_
 refine zk ?_
 exact ⟨trivial,[(4,.dat vN)],⟨rfl,trivial⟩,⟨rfl,rfl,trivial⟩,rfl,.inl ⟨[vN],⟨rfl,trivial⟩,rfl⟩⟩
theorem w54 (b:Nat):Fn Tryz.prog 118 [vlst [[vval (PB b)]],vval (PB b)] (zr [vint 0]):=by
 refine ⟨by kernel_rfl,yf (us:=[vint 0]) Tryz.func118 rfl rfl rfl rfl fun X hN => ?_⟩
 refine zd ?_
 refine zj hN rfl ?_
 refine qe rfl ?_
 refine zd ?_
 refine zd ?_
 refine zj hN rfl ?_
 refine qd rfl ?_
 refine za (z1p Zk rfl) ?_
 refine qd rfl ?_
 refine yc ?_
 refine Wi 1 ?_
 refine awpr ?_
 refine zd ?_
 refine zj hN rfl ?_
 refine za (ye rfl rfl) ?_
 refine zd ?_
 refine zh true rfl (fun h => ?_) (fun h=>(by cases h))
 refine zn ?_
 refine zd ?_
 refine yc ?_
 refine zd ?_
 refine zj hN rfl ?_
 refine qd rfl ?_
 refine qe rfl ?_
 refine zd ?_
 refine zj hN rfl ?_
 refine qd rfl ?_
 refine qd rfl ?_
 refine qd rfl ?_
 refine za (z8c y1l rfl rfl ⟨by simp,by simp⟩ (fun el h=>by simp at h; subst h; rfl)) ?_
 refine za (wh y1e rfl (by first | assumption | rfl) rfl) ?_
 refine za (w1x ⟨Yc,rfl⟩ rfl rfl) ?_
 refine zh true rfl (fun h => ?_) (fun h=>(by cases h))
 refine zd ?_
 refine zj hN rfl ?_
 refine qd rfl ?_
 refine qe rfl ?_
 refine zk ?_
 exact ⟨trivial,⟨.inl rfl,trivial⟩⟩
theorem w57 (b:Nat):Fn Tryz.prog 50 [vlst [[vval (PB b)]],vval (PB b)] (zr [zi true]):=by
 refine ⟨by kernel_rfl,yf (us:=[zi true]) Tryz.func50 rfl rfl rfl rfl fun X hN => ?_⟩
 refine zd ?_
 refine zj hN rfl ?_
 refine qe rfl ?_
 refine zd ?_
 refine zj hN rfl ?_
 refine qd rfl ?_
 refine qd rfl ?_
 refine za (zo (w54 b) ⟨.inl rfl,.inl rfl,trivial⟩) ?_
 refine za (vk rfl rfl) ?_
 refine qe rfl ?_
 refine zk ?_
 exact ⟨trivial,⟨.inl rfl,trivial⟩⟩
theorem y8w (m s n:Int) (hm:1≤m) (hs:1≤s):FnG Tryz.prog 49 [.ptr 0 0] [(0,jq (some 0) m s n (.dat vnil))] (.dat (zr [])) [(0,jq (some 0) m s n (.dat vnil))]:=by
 refine vy (by kernel_rfl) Tryz.func49 rfl rfl rfl rfl fun X A hN => ?_
 refine zd ?_
 refine zj hN rfl ?_
 refine qe rfl ?_
 refine zd ?_
 refine zd ?_
 refine zj hN rfl ?_
 refine za (ze (.ptr _ _) rfl) ?_
 refine za (qn rfl) ?_
 refine za (zq ux rfl) ?_
 refine zm (zt uw rfl rfl) rfl ?_
 refine za (z8b Zk rfl) ?_
 refine qd rfl ?_
 refine yc ?_
 refine Wi 1 ?_
 refine awpr ?_
 refine zd ?_
 refine zj hN rfl ?_
 refine za (ye rfl rfl) ?_
 refine zd ?_
 refine zh false rfl (fun h=>(by cases h)) (fun h => ?_)
 refine yz ?_
 refine yc ?_
 refine Wi 1 ?_
 refine awpr ?_
 refine zd ?_
 refine zd ?_
 refine ww mixed hN rfl rfl ?_
 refine za (ze (.ptr _ _) rfl) ?_
 refine za (qn rfl) ?_
 refine za (zq ux rfl) ?_
 refine zm (zt uw rfl rfl) rfl ?_
 refine za (z8b Zk rfl) ?_
 refine za (ze (.ptr _ _) rfl) ?_
 refine za (qn rfl) ?_
 refine za (zq x1o rfl) ?_
 refine zm (zt tyS3 rfl rfl) rfl ?_
 refine za (yd (u':=zi false) (wb rfl rfl) (ju (decide_eq_false (by simp; omega)))) ?_
 refine qd rfl ?_
 refine zf rfl rfl rfl (ze (.dat _) rfl) ?_
 refine zf rfl rfl rfl (ze (.ptr _ _) rfl) ?_
 refine zf rfl rfl rfl (qn rfl) ?_
 refine zf rfl rfl rfl (zq x1n rfl) ?_
 refine vc rfl rfl rfl (zt tyS3 rfl rfl) rfl ?_
 refine zf rfl rfl rfl (yd (u':=zi false) (wb rfl rfl) (ju (decide_eq_false (by simp; omega)))) ?_
 refine za (zv rfl rfl rfl) ?_
 refine ⟨rfl,?_⟩
 refine zh false rfl (fun h=>(by cases h)) (fun h => ?_)
 refine yz ?_
 exact ⟨trivial,[],trivial,⟨rfl,trivial⟩,rfl,.inl ⟨[],trivial,rfl⟩⟩
theorem w5w (m s n:Int) (K:wx) (z:Int) (H:z2v K.Entry=some z) (hz:0≤z∧z≤s) (hm:1≤m) (hs:s≤10000000):FnG Tryz.prog 49 [.ptr 0 0] [(0,jq (some 0) m s n (.dr 1 uL)),(1,Wg (some 0) K)] (.dat (zr [])) [(0,jq (some 0) m s n (.dr 1 uL)),(1,Wg (some 0) K)]:=by
 refine vy (by kernel_rfl) Tryz.func49 rfl rfl rfl rfl fun X A hN => ?_
 refine Wh 0 3 1 (A.bl 1) (.dat (vlst [[vval (PB (A.bl 1))]])) rfl rfl rfl (fun g w M v hb h=>y18 (u:=uL) hb h) ?_
 refine zd ?_
 refine zj hN rfl ?_
 refine qe rfl ?_
 refine zd ?_
 refine zd ?_
 refine zj hN rfl ?_
 refine za (ze (.ptr _ _) rfl) ?_
 refine za (qn rfl) ?_
 refine za (zq ux rfl) ?_
 refine zm (zt uw rfl rfl) rfl ?_
 refine za (z1p Zk rfl) ?_
 refine qd rfl ?_
 refine yc ?_
 refine Wi 2 ?_
 refine awpr ?_
 refine zd ?_
 refine zj hN rfl ?_
 refine za (ye rfl rfl) ?_
 refine zd ?_
 refine zh true rfl (fun h => ?_) (fun h=>(by cases h))
 refine zn ?_
 refine zd ?_
 refine yc ?_
 refine zd ?_
 refine zj hN rfl ?_
 refine za (z8c y1l rfl rfl ⟨by simp,by simp⟩ (fun el h=>by simp at h; subst h; rfl)) ?_
 refine za (wh y1e rfl (by first | assumption | rfl) rfl) ?_
 refine qe rfl ?_
 refine z7c 4 1 (A.bl 1) (.ptr 1 0) rfl (fun g w M v hb h=>y19 hb h) ?_
 refine zj hN rfl ?_
 refine qd rfl ?_
 refine za (ze (.ptr _ _) rfl) ?_
 refine za (qn rfl) ?_
 refine za (zq Wn rfl) ?_
 refine zm (yr y5s rfl rfl rfl) rfl ?_
 refine za (zo (w77 _ _ H) ⟨.inl rfl,trivial⟩) ?_
 refine za (qy rfl rfl (by omega)) ?_
 refine qe rfl ?_
 refine zj hN rfl ?_
 refine za (qy rfl rfl (by omega)) ?_
 refine qd rfl ?_
 refine awpr ?_
 refine zd ?_
 refine zj hN rfl ?_
 refine za (ye rfl rfl) ?_
 refine zd ?_
 refine zh false rfl (fun h=>(by cases h)) (fun h => ?_)
 refine yz ?_
 refine yc ?_
 refine Wi 1 ?_
 refine awpr ?_
 refine zd ?_
 refine zd ?_
 refine Wh 0 3 1 (A.bl 1) (.dr 1 uL) rfl rfl rfl (fun g w M v hb h=>z8i (u:=uL) hb h) ?_
 refine ww mixed hN rfl rfl ?_
 refine za (ze (.ptr _ _) rfl) ?_
 refine za (qn rfl) ?_
 refine za (zq ux rfl) ?_
 refine zm (zt uw rfl rfl) rfl ?_
 refine zm (jp (s := .dat (vint 1)) 1 (fun qb=>z1p (es:=[[vval (PB qb)]]) Zk rfl) rfl rfl) rfl ?_
 refine za (ze (.ptr _ _) rfl) ?_
 refine za (qn rfl) ?_
 refine za (zq x1o rfl) ?_
 refine zm (zt tyS3 rfl rfl) rfl ?_
 refine za (yd (u':=zi false) (wb rfl rfl) (ju (decide_eq_false (by simp; omega)))) ?_
 refine qd rfl ?_
 refine zf rfl rfl rfl (ze (.dat _) rfl) ?_
 refine zf rfl rfl rfl (ze (.ptr _ _) rfl) ?_
 refine zf rfl rfl rfl (qn rfl) ?_
 refine zf rfl rfl rfl (zq x1n rfl) ?_
 refine vc rfl rfl rfl (zt tyS3 rfl rfl) rfl ?_
 refine zf rfl rfl rfl (yd (u':=zi false) (wb rfl rfl) (ju (decide_eq_false (by simp; omega)))) ?_
 refine za (zv rfl rfl rfl) ?_
 refine ⟨rfl,?_⟩
 refine zh false rfl (fun h=>(by cases h)) (fun h => ?_)
 refine yz ?_
 exact ⟨trivial,[],trivial,⟨rfl,rfl,trivial⟩,rfl,.inl ⟨[],trivial,rfl⟩⟩
end Go.Proofs.YtahcnngcpjkpgabGreatDoor
