/- The abstract machine: maps whose elements are pointers to the boxes of a family; such a map given up. -/
import Derived.Test.YtgdijjmdfcgifaaGreatFi
namespace Go.Proofs.YtgdijjmdfcgifaaGreat
open Go.RowKit Go.ChangeMaps Go.MapKept
set_option linter.unusedVariables false
theorem z0g {g g':Gh} {w:World} {M:Blks} {i i':Nat} {o:AObj} (hc:clO o=true) (h1:g'.bl i'=g.bl i) (h2:∀ n,g'.sv i' n=g.sv i n) (h:RepO g w M i o):RepO g' w M i' o:=by
 cases o with
 | box an t cs =>
  obtain ⟨b,l,q1,q0,q2,q3,q4⟩:=h
  refine ⟨b,l,h1.trans q1,q0,q2,q3,fun j s hs => ?_⟩
  obtain ⟨x,r1,r2,r3⟩:=q4 j s hs
  refine ⟨x,r1,?_,r3⟩
  have h4:clS s=true:=List.all_eq_true.1 hc s (List.mem_of_getElem? hs)
  cases s <;> simp [clS] at h4
  ·trivial
  ·exact r2
 | row e size es=>obtain ⟨v,xs,q1,q2⟩:=h; exact ⟨v,xs,(h2 _).trans q1,q2⟩
 | opq an R=>obtain ⟨b,ob,q1,q2⟩:=h; exact ⟨b,ob,h1.trans q1,q2⟩
 | rowA v e size es=>obtain ⟨xs,q1,q2⟩:=h; exact ⟨xs,(h2 _).trans q1,q2⟩
theorem ug {g g':Gh} {i i':Nat} {o:AObj} (h1:g'.bl i'=g.bl i) (h2:∀ n,g'.sv i' n=g.sv i n):obk g' i' o=obk g i o:=by
 cases o <;> simp [obk,h1,h2]
theorem Mem.mlt {X:Ctx} {own:Own} {g:Gh} {w:World} (h:Mem X own g w):Mlt w (Mof X g own):=
 Rel.mlt (X:=⟨X.M0,X.w0,X.S0,0,none,[]⟩) (f':=fun _ => .any) (a:=⟨#[],[]⟩) ⟨h.kp,h.m0,rfl,rfl,fun _=>trivial,h.ob,h.sep,h.mine,h.fresh,h.top⟩
theorem x0f {ι:Type} {P:Program} {fn:Nat} {args:List V} {pre R:List (Nat×AObj)} {res:ι→V} {post:ι→List (Nat×AObj)} (hF:FnI P fn args pre res post) (hcp:∀ p,p∈pre→clO p.2=true) (hcq:∀ y p,p∈post y→clO p.2=true) (hcR:∀ p,p∈R→clO p.2=true)
  (nd:((pre++R).map (·.1)).Nodup) (nq:∀ y,((post y++R).map (·.1)).Nodup):FnI P fn args (pre++R) res (fun y=>post y++R):=by
 refine ⟨hF.1,fun X g w vs hw hm hl hvs => ?_⟩
 subst hw
 have nd':=nd
 rw [List.map_append] at nd'
 have ndp:(pre.map (·.1)).Nodup:=(List.nodup_append.1 nd').1
 have hdis:∀ k,k∈pre.map (·.1)→k∈R.map (·.1)→False:=fun k h1 h2=>(List.nodup_append.1 nd').2.2 k h1 k h2 rfl
 have inP:∀ i o,ows pre i=some (some o)→ows (pre++R) i=some (some o):=fun i o h=>(qg nd).2 (List.mem_append_left _ ((qg ndp).1 h))
 have inR:∀ i o,(i,o)∈R→ows (pre++R) i=some (some o):=fun i o h=>(qg nd).2 (List.mem_append_right _ h)
 have keyP:∀ i o,ows pre i=some (some o)→i∈pre.map (·.1):=fun i o h=>List.mem_map.2 ⟨_,(qg ndp).1 h,rfl⟩
 have clP:∀ i o,ows pre i=some (some o)→clO o=true:=fun i o h=>hcp _ ((qg ndp).1 h)
 let S0:List Nat:=pre.filterMap fun p=>obk g p.1 p.2
 have hS0:∀ b,b∈S0↔∃ id o,ows pre id=some (some o)∧obk g id o=some b:=fun b=>by
  simp only [S0,List.mem_filterMap]
  constructor
  ·rintro ⟨⟨i,o⟩,h1,h2⟩; exact ⟨i,o,(qg ndp).2 h1,h2⟩
  ·rintro ⟨i,o,h1,h2⟩; exact ⟨(i,o),(qg ndp).1 h1,h2⟩
 let M:Blks:=Mof X g (ows (pre++R))
 have hlt:Mlt X.w0 M:=hm.mlt
 let X':Ctx:=⟨fun b=>M b∧b ∉ S0,X.w0,S0,0,none,[]⟩
 let g':Gh:=⟨fun i=>if i∈pre.map (·.1) then g.bl i else none,fun i n=>if i∈pre.map (·.1) then g.sv i n else none⟩
 have g1:∀ i o,ows pre i=some (some o)→g'.bl i=g.bl i:=fun i o h=>if_pos (keyP i o h)
 have g2':∀ i o,ows pre i=some (some o)→∀ n,g'.sv i n=g.sv i n:=fun i o h n=>if_pos (keyP i o h)
 have hSM:∀ b,b∈S0→M b:=fun b hb=>by
  obtain ⟨i,o,h1,h2⟩:=(hS0 b).1 hb
  exact .inr ⟨i,o,inP i o h1,h2⟩
 have hm0:∀ b,X.M0 b→b ∉ S0:=fun b h hs=>by
  obtain ⟨id,o,h1,h2⟩:=(hS0 b).1 hs
  have h5:=hm.m0.1 b h
  rcases hm.mine id o b (inP _ _ h1) h2 with h6 | h6
  ·exact h5.2 h6
  ·have:=h5.1
   omega
 have hRS:∀ k o b,(k,o)∈R→obk g k o=some b→b ∉ S0:=fun k o b h1 h2 hs=>by
  obtain ⟨i,o',h3,h4⟩:=(hS0 b).1 hs
  have:=hm.sep k i o o' b (inR k o h1) (inP i o' h3) h2 h4
  subst this
  exact hdis k (keyP k o' h3) (List.mem_map.2 ⟨_,h1,rfl⟩)
 have hMsub:∀ b,Mof X' g' (ows pre) b→M b:=fun b hb=>by
  rcases hb with hb | ⟨i,o,h1,h2⟩
  ·exact hb.1
  ·rw [ug (g1 i o h1) (g2' i o h1)] at h2
   exact .inr ⟨i,o,inP i o h1,h2⟩
 have heM:Ext M (Mof X' g' (ows pre)) X.w0 X.w0:=⟨Nat.le_refl _,fun _ _ _ _=>rfl,fun b _ h=>hMsub b h⟩
 have hmem:Mem X' (ows pre) g' X.w0:=by
  refine ⟨Kp.refl _ _,⟨fun b hb=>⟨hlt.1 b hb.1,hb.2⟩,hlt.2.1,fun b hb=>⟨fun h=>hlt.2.2 b hb h.1,fun h=>hlt.2.2 b hb (hSM b h)⟩⟩,fun i o h => ?_,fun i i' o o' b h1 h2 h3 h4 => ?_,fun i o b h1 h2 => ?_,fun i hi => ?_,fun i e size es h k hk => ?_⟩
  ·exact (z0g (clP i o h) (g1 i o h) (g2' i o h) (hm.ob i o (inP i o h))).keep heM (Gh.le_refl _) fun b _=>rfl
  ·rw [ug (g1 i o h1) (g2' i o h1)] at h3
   rw [ug (g1 i' o' h2) (g2' i' o' h2)] at h4
   exact hm.sep i i' o o' b (inP _ _ h1) (inP _ _ h2) h3 h4
  ·rw [ug (g1 i o h1) (g2' i o h1)] at h2
   exact .inl ((hS0 b).2 ⟨i,o,h1,h2⟩)
  ·have hn:=jp.1 hi
   exact ⟨if_neg hn,fun n=>if_neg hn⟩
  ·rw [g2' i _ h]
   exact hm.top i e size es (inP _ _ h) k hk
 refine (hF.2 X' g' X.w0 vs rfl hmem hl (fun j u hj => ?_)).mono ?_
 ·obtain ⟨v,h1,h2⟩:=hvs j u hj
  exact ⟨v,h1,u.keep heM h2⟩
 rintro e w' ⟨y,v,g2,rfl,hm2,hres⟩
 have hkp:Kp S0 X.w0 w':=hm2.kp
 have nq':=nq y
 rw [List.map_append] at nq'
 have ndq:((post y).map (·.1)).Nodup:=(List.nodup_append.1 nq').1
 have hdq:∀ k,k∈(post y).map (·.1)→k∈R.map (·.1)→False:=fun k h1 h2=>(List.nodup_append.1 nq').2.2 k h1 k h2 rfl
 let G:Gh:=⟨fun i=>if i∈R.map (·.1) then g.bl i else g2.bl i,fun i n=>if i∈R.map (·.1) then g.sv i n else g2.sv i n⟩
 have c1:∀ i,i ∉ R.map (·.1)→G.bl i=g2.bl i∧∀ n,G.sv i n=g2.sv i n:=fun i h=>⟨if_neg h,fun n=>if_neg h⟩
 have c2:∀ i o,(i,o)∈R→G.bl i=g.bl i∧∀ n,G.sv i n=g.sv i n:=fun i o h=>⟨if_pos (List.mem_map.2 ⟨_,h,rfl⟩),fun n=>if_pos (List.mem_map.2 ⟨_,h,rfl⟩)⟩
 have hown:∀ k o,ows (post y++R) k=some (some o)→(ows (post y) k=some (some o)∧clO o=true∧k ∉ R.map (·.1))∨(k,o)∈R:=fun k o h=>by
  rcases List.mem_append.1 ((qg (nq y)).1 h) with h1 | h1
  ·exact .inl ⟨(qg ndq).2 h1,hcq y _ h1,fun h2=>hdq k (List.mem_map.2 ⟨_,h1,rfl⟩) h2⟩
  ·exact .inr h1
 have hblk:∀ k o b,ows (post y++R) k=some (some o)→obk G k o=some b→(ows (post y) k=some (some o)∧obk g2 k o=some b)∨((k,o)∈R∧obk g k o=some b):=fun k o b h hb=>by
  rcases hown k o h with ⟨h1,h2,h3⟩ | h1
  ·rw [ug (c1 k h3).1 (c1 k h3).2] at hb; exact .inl ⟨h1,hb⟩
  ·rw [ug (c2 k o h1).1 (c2 k o h1).2] at hb; exact .inr ⟨h1,hb⟩
 have hMn:∀ b,Mof X G (ows (post y++R)) b→Mof X' g2 (ows (post y)) b:=fun b hb=>by
  rcases hb with hb | ⟨k,o,h1,h2⟩
  ·exact .inl ⟨.inl hb,hm0 b hb⟩
  ·rcases hblk k o b h1 h2 with ⟨q1,q2⟩ | ⟨q1,q2⟩
   ·exact .inr ⟨k,o,q1,q2⟩
   ·exact .inl ⟨.inr ⟨k,o,inR k o q1,q2⟩,hRS k o b q1 q2⟩
 have heO:Ext (Mof X' g2 (ows (post y))) (Mof X G (ows (post y++R))) w' w':=⟨Nat.le_refl _,fun _ _ _ _=>rfl,fun b _ h=>hMn b h⟩
 have he:Ext M (Mof X G (ows (post y++R))) X.w0 w':=by
  refine ⟨hkp.size,fun b hb hM _=>hkp.block b hb fun h=>hM (hSM b h),fun b hb hM => ?_⟩
  rcases hMn b hM with h1 | ⟨i,o,h1,h2⟩
  ·exact h1.1
  ·rcases hm2.mine i o b h1 h2 with h3 | h3
   ·exact hSM b h3
   ·have h4:X.w0.heap.size≤b:=h3
    omega
 have hpB:∀ k o b,ows (post y) k=some (some o)→obk g2 k o=some b→b∈S0∨X.w0.heap.size≤b:=fun k o b h1 h2=>hm2.mine k o b h1 h2
 have hRl:∀ k o b,(k,o)∈R→obk g k o=some b→b < X.w0.heap.size:=fun k o b h1 h2=>(hm.ob k o (inR k o h1)).blk_lt h2
 refine ⟨y,v,G,rfl,⟨hm.kp.trans hkp fun q hq => ?_,hm.m0,fun k o h => ?_,fun k k' o o' b h1 h2 h3 h4 => ?_,fun k o b h1 h2 => ?_,fun k hk => ?_,fun k e size es h n hn => ?_⟩,(res y).keep heO hres⟩
 ·obtain ⟨id,o,h1,h2⟩:=(hS0 q).1 hq
  exact hm.mine id o q (inP _ _ h1) h2
 ·rcases hown k o h with ⟨h1,h2,h3⟩ | h1
  ·exact (z0g h2 (c1 k h3).1 (c1 k h3).2 (hm2.ob k o h1)).keep heO (Gh.le_refl _) fun b _=>rfl
  ·have h5:=hm.ob k o (inR k o h1)
   refine (z0g (hcR _ h1) (c2 k o h1).1 (c2 k o h1).2 h5).keep he (Gh.le_refl _) fun b hb => ?_
   rw [ug (c2 k o h1).1 (c2 k o h1).2] at hb
   exact hkp.block b (h5.blk_lt hb) (hRS k o b h1 hb)
 ·rcases hblk k o b h1 h3 with ⟨q1,q2⟩ | ⟨q1,q2⟩ <;> rcases hblk k' o' b h2 h4 with ⟨r1,r2⟩ | ⟨r1,r2⟩
  ·exact hm2.sep k k' o o' b q1 r1 q2 r2
  ·exfalso
   rcases hpB k o b q1 q2 with h5 | h5
   ·exact hRS k' o' b r1 r2 h5
   ·have:=hRl k' o' b r1 r2; omega
  ·exfalso
   rcases hpB k' o' b r1 r2 with h5 | h5
   ·exact hRS k o b q1 q2 h5
   ·have:=hRl k o b q1 q2; omega
  ·exact hm.sep k k' o o' b (inR _ _ q1) (inR _ _ r1) q2 r2
 ·rcases hblk k o b h1 h2 with ⟨q1,q2⟩ | ⟨q1,q2⟩
  ·rcases hpB k o b q1 q2 with h5 | h5
   ·obtain ⟨i,o',h6,h7⟩:=(hS0 b).1 h5
    exact hm.mine i o' b (inP _ _ h6) h7
   ·exact .inr h5
  ·exact hm.mine k o b (inR _ _ q1) q2
 ·have hn:=jp.1 hk
  rw [List.map_append,List.mem_append,not_or] at hn
  obtain ⟨e1,e2⟩:=c1 k hn.2
  obtain ⟨f1,f2⟩:=hm2.fresh k (jp.2 hn.1)
  exact ⟨e1.trans f1,fun n=>(e2 n).trans (f2 n)⟩
 ·rcases hown k _ h with ⟨h1,_,h3⟩ | h1
  ·rw [(c1 k h3).2]
   exact hm2.top k e size es h1 n hn
  ·rw [(c2 k _ h1).2]
   exact hm.top k e size es (inR _ _ h1) n hn
def renL (σ:Nat→Nat) (l:List (Nat×AObj)):List (Nat×AObj):=l.map fun p=>(σ p.1,p.2)
theorem z9h (σ:Nat→Nat) (l:List (Nat×AObj)):(renL σ l).map (·.1)=(l.map (·.1)).map σ:=by
 unfold renL
 rw [List.map_map,List.map_map]; rfl
theorem y7q {σ:Nat→Nat} (hσ:∀ i j,σ i=σ j→i=j) {l:List (Nat×AObj)} (h:(l.map (·.1)).Nodup):((renL σ l).map (·.1)).Nodup:=by
 rw [z9h]
 unfold List.Nodup at *
 rw [List.pairwise_map]
 exact h.imp fun h e=>h (hσ _ _ e)
theorem Za {σ:Nat→Nat} (hσ:∀ i j,σ i=σ j→i=j) {l:List (Nat×AObj)} (h:(l.map (·.1)).Nodup) {i:Nat} {o:AObj}:ows (renL σ l) (σ i)=some (some o)↔ows l i=some (some o):=by
 rw [qg (y7q hσ h),qg h]
 unfold renL
 rw [List.mem_map]
 constructor
 ·rintro ⟨⟨j,q⟩,h1,h2⟩
  injection h2 with h2 h3
  have:=hσ _ _ h2
  simp only at this h3
  subst this; subst h3
  exact h1
 ·intro h1; exact ⟨_,h1,rfl⟩
theorem z3f {σ:Nat→Nat} {l:List (Nat×AObj)} (hσ:∀ i j,σ i=σ j→i=j) (h:(l.map (·.1)).Nodup) {k:Nat} {o:AObj} (hk:ows (renL σ l) k=some (some o)):∃ i,k=σ i∧ows l i=some (some o):=by
 obtain ⟨⟨j,q⟩,h1,h2⟩:=List.mem_map.1 ((qg (y7q hσ h)).1 hk)
 injection h2 with h2 h3
 simp only at h2 h3
 subst h3
 exact ⟨j,h2.symm,(qg h).2 h1⟩
open Classical in
theorem x0b {ι:Type} {P:Program} {fn:Nat} {args:List V} {pre:List (Nat×AObj)} {res:ι→V} {post:ι→List (Nat×AObj)} (σ:Nat→Nat) (hσ:∀ i j,σ i=σ j→i=j) (hF:FnI P fn args pre res post) (hcp:∀ p,p∈pre→clO p.2=true) (hcq:∀ y p,p∈post y→clO p.2=true)
  (nd:(pre.map (·.1)).Nodup) (nq:∀ y,((post y).map (·.1)).Nodup):FnI P fn args (renL σ pre) res (fun y=>renL σ (post y)):=by
 refine ⟨hF.1,fun X g w vs hw hm hl hvs => ?_⟩
 let g':Gh:=⟨fun i=>g.bl (σ i),fun i n=>g.sv (σ i) n⟩
 have ob':∀ i o,obk g' i o=obk g (σ i) o:=fun i o=>ug rfl fun _=>rfl
 have hM1:∀ b,Mof X g' (ows pre) b→Mof X g (ows (renL σ pre)) b:=fun b hb=>by
  rcases hb with hb | ⟨i,o,h1,h2⟩
  ·exact .inl hb
  ·exact .inr ⟨σ i,o,(Za hσ nd).2 h1,by rw [← ob']; exact h2⟩
 have he1:∀ w:World,Ext (Mof X g (ows (renL σ pre))) (Mof X g' (ows pre)) w w:=fun w=>⟨Nat.le_refl _,fun _ _ _ _=>rfl,fun b _ h=>hM1 b h⟩
 have hmem:Mem X (ows pre) g' w:=by
  refine ⟨hm.kp,hm.m0,fun i o h => ?_,fun i i' o o' b h1 h2 h3 h4 => ?_,fun i o b h1 h2 => ?_,fun i hi => ?_,fun i e size es h k hk => ?_⟩
  ·exact (z0g (g:=g) (g':=g') (i:=σ i) (i':=i) (o:=o) (hcp _ ((qg nd).1 h)) rfl (fun _=>rfl) (hm.ob (σ i) o ((Za hσ nd).2 h))).keep (he1 w) (Gh.le_refl _) fun b _=>rfl
  ·rw [ob'] at h3 h4
   exact hσ _ _ (hm.sep _ _ o o' b ((Za hσ nd).2 h1) ((Za hσ nd).2 h2) h3 h4)
  ·rw [ob'] at h2
   exact hm.mine (σ i) o b ((Za hσ nd).2 h1) h2
  ·have hn:ows (renL σ pre) (σ i)=none:=by
    rw [jp,z9h]
    intro h
    obtain ⟨j,h1,h2⟩:=List.mem_map.1 h
    have:=hσ _ _ h2
    subst this
    exact jp.1 hi h1
   exact hm.fresh (σ i) hn
  ·exact hm.top (σ i) e size es ((Za hσ nd).2 h) k hk
 refine (hF.2 X g' w vs hw hmem hl (fun j u hj => ?_)).mono ?_
 ·obtain ⟨v,h1,h2⟩:=hvs j u hj
  exact ⟨v,h1,u.keep (he1 w) h2⟩
 rintro e w' ⟨y,v,g2,rfl,hm2,hres⟩
 let G:Gh:=⟨fun k=>if h:∃ i,σ i=k then g2.bl h.choose else none,fun k n=>if h:∃ i,σ i=k then g2.sv h.choose n else none⟩
 have G1:∀ i,G.bl (σ i)=g2.bl i:=fun i=>by
  have h:∃ j,σ j=σ i:=⟨i,rfl⟩
  show (if h:∃ j,σ j=σ i then g2.bl h.choose else none)=_
  rw [dif_pos h,hσ _ _ h.choose_spec]
 have G2:∀ i n,G.sv (σ i) n=g2.sv i n:=fun i n=>by
  have h:∃ j,σ j=σ i:=⟨i,rfl⟩
  show (if h:∃ j,σ j=σ i then g2.sv h.choose n else none)=_
  rw [dif_pos h,hσ _ _ h.choose_spec]
 have ob2:∀ i o,obk G (σ i) o=obk g2 i o:=fun i o=>ug (G1 i) (G2 i)
 have hM2:∀ b,Mof X G (ows (renL σ (post y))) b→Mof X g2 (ows (post y)) b:=fun b hb=>by
  rcases hb with hb | ⟨k,o,h1,h2⟩
  ·exact .inl hb
  ·obtain ⟨i,rfl,h3⟩:=z3f hσ (nq y) h1
   exact .inr ⟨i,o,h3,by rw [← ob2]; exact h2⟩
 have he2:Ext (Mof X g2 (ows (post y))) (Mof X G (ows (renL σ (post y)))) w' w':=⟨Nat.le_refl _,fun _ _ _ _=>rfl,fun b _ h=>hM2 b h⟩
 refine ⟨y,v,G,rfl,⟨hm2.kp,hm2.m0,fun k o h => ?_,fun k k' o o' b h1 h2 h3 h4 => ?_,fun k o b h1 h2 => ?_,fun k hk => ?_,fun k e size es h n hn => ?_⟩,(res y).keep he2 hres⟩
 ·obtain ⟨i,rfl,h3⟩:=z3f hσ (nq y) h
  exact (z0g (hcq y _ ((qg (nq y)).1 h3)) (G1 i) (G2 i) (hm2.ob i o h3)).keep he2 (Gh.le_refl _) fun b _=>rfl
 ·obtain ⟨i,rfl,r1⟩:=z3f hσ (nq y) h1
  obtain ⟨i',rfl,r2⟩:=z3f hσ (nq y) h2
  rw [ob2] at h3 h4
  rw [hm2.sep i i' o o' b r1 r2 h3 h4]
 ·obtain ⟨i,rfl,r1⟩:=z3f hσ (nq y) h1
  rw [ob2] at h2
  exact hm2.mine i o b r1 h2
 ·by_cases h:∃ i,σ i=k
  ·obtain ⟨i,rfl⟩:=h
   have hi:ows (post y) i=none:=by
    rw [jp]
    intro h1
    have h2:=jp.1 hk
    rw [z9h] at h2
    exact h2 (List.mem_map.2 ⟨i,h1,rfl⟩)
   rw [G1]
   exact ⟨(hm2.fresh i hi).1,fun n=>by rw [G2]; exact (hm2.fresh i hi).2 n⟩
  ·exact ⟨dif_neg h,fun n=>dif_neg h⟩
 ·obtain ⟨i,rfl,r1⟩:=z3f hσ (nq y) h
  rw [G2]
  exact hm2.top i e size es r1 n hn
end Go.Proofs.YtgdijjmdfcgifaaGreat
namespace Go.Proofs.YtgdijjmdfcgifaaGreat
open Go.RowKit Go.ChangeMaps Go.MapKept
set_option linter.unusedVariables false
section
variable {κ τ:Type}
def fx (f:Nat→Nat) (i b:Nat):Nat→Nat:=fun j=>if j=i then b else f j
theorem vr {own:Own} {l R:List (Nat×AObj)}:subO own (l++R)↔subO own l∧∀ p,p∈R→own p.1=some (some p.2):=by
 rw [ua,ua]
 exact ⟨fun h=>⟨fun p hp=>h p (List.mem_append_left _ hp),fun p hp=>h p (List.mem_append_right _ hp)⟩,fun h p hp=>(List.mem_append.1 hp).elim (h.1 p) (h.2 p)⟩
theorem z4v {P:Program} {X:Ctx} {Q:Exit→(Nat→Slot)→Own→Prop} {f:Nat→Slot} {c:Code} {l R:List (Nat×AObj)} (ids:List Nat) (hR:Big R) (hi:(ids.all fun i=>Nat.blt i 1000 && !((l.map (·.1)).contains i))=true)
  (h:AWP P X c Q f (upl (ows (l++R)) (ids.map fun i=>(i,none)))):AWP P X c Q f (ows (l++R)):=by
 have e:∀ ids:List Nat,(ids.all fun i=>Nat.blt i 1000 && !((l.map (·.1)).contains i))=true→upl (ows (l++R)) (ids.map fun i=>(i,none))=ows (l++R):=by
  intro ids
  induction ids with
  | nil=>intro _; rfl
  | cons i ids ih =>
   intro hi
   rw [List.all_cons,Bool.and_eq_true,Bool.and_eq_true] at hi
   funext k
   simp only [List.map_cons,upl]
   by_cases hk:k=i
   ·subst hk
    have e1:Nat.beq k k=true:=by simp
    simp only [e1,cond_true]
    exact (x6h hR hi.1.1 (by simpa using hi.1.2)).symm
   ·simp only [qu hk,cond_false]
    exact congrFun (ih hi.2) k
 rw [e ids hi] at h; exact h
variable {P:Program} {f:Nat→Slot} {dst:Option Tmp} {ty:TypeId} {pos:String} {af:Array Edge} {gd:Option (Nat×Bool)} {t kt et:TypeId} {x y:Operand}
end
end Go.Proofs.YtgdijjmdfcgifaaGreat
