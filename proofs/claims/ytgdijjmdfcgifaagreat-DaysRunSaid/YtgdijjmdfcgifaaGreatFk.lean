/- The abstract machine: operations that enter functions over closed objects: function values too, drawn regions too; frames told by checks. -/
import Derived.Test.YtgdijjmdfcgifaaGreatPm
import Derived.Test.YtgdijjmdfcgifaaGreatPb
import Derived.Test.YtgdijjmdfcgifaaGreatAg
namespace Go.Proofs.YtgdijjmdfcgifaaGreat
open Go.RowKit Go.ChangeMaps Go.MapKept
set_option linter.unusedVariables false
section
variable {P:Program} {f:Nat→Slot} {dst:Option Tmp} {ty:TypeId} {pos:String} {af:Array Edge} {gd:Option (Nat×Bool)}
theorem z29 {fn:Nat} {xs:Array Operand} {ts:Array TypeId} {us:List V} {res:V} (rd:List (Nat×AObj)) (hF:Fn P fn us res) (hfree:∀ (w:World) (M M':Blks) (v:Value),res.p w M v→res.p w M' v)
  (hl:∀ (X:Ctx) (own:Own) (g:Gh) (a:Act) (w:World),(∀ x,x∈xs.toList→RepS g w (Mof X g own) (evS f x) (a.eval x))→(∀ p,p∈rd→RepO g w (Mof X g own) p.1 p.2)→(∀ p b,p∈rd→obk g p.1 p.2=some b→¬ X.M0 b)→Ext (Mof X g own) X.M0 w w→Ts w X.M0 us (xs.map a.eval).toList) :
  Stp P ⟨dst,.call { callee := .value (.func fn),args:=xs,argTypes:=ts },ty,pos,af,gd⟩ f ⟨false,rd.map (fun p=>(p.1,some (some p.2))),[],.dat res⟩:=by
 intro X f' own g a w Q hr hd hx hrd K hK
 have hown:∀ p,p∈rd→own p.1=some (some p.2):=fun p hp=>hrd (p.1,some (some p.2)) (List.mem_map.2 ⟨p,hp,rfl⟩)
 unfold Oper.wp
 rw [z1m hF.1 xs ts a.eval rfl w]
 show Calls P fn (xs.map a.eval) w _
 have hm0:∀ p b,p∈rd→obk g p.1 p.2=some b→¬ X.M0 b:=fun p b hp hb h=>by
  have h5:=hr.m0.1 b h
  rcases hr.mine p.1 p.2 b (hown p hp) hb with h6 | h6
  ·exact h5.2 h6
  ·have:=h5.1
   omega
 have hT:Ts w X.M0 us (xs.map a.eval).toList:=hl X own g a w (fun x hm=>by
   have:=hx x (by simp only [Op.operands,Call.operands]; simp at hm ⊢; exact .inr hm)
   rw [← this]; exact hr.ev x) (fun p hp=>hr.ob p.1 p.2 (hown p hp)) hm0 ⟨Nat.le_refl _,fun _ _ _ _=>rfl,fun b _ h => .inl h⟩
 refine (hF.2 X.M0 w _ ⟨fun b hb=>hr.mlt.1 b (.inl hb),hr.mlt.2.1,fun b hb h=>hr.mlt.2.2 b hb (.inl h)⟩ hT).mono ?_
 rintro e w' ⟨v,rfl,h1,h2⟩
 exact hK g v w' ((hr.grow h2).put _ (.dat res) v hd (hfree _ _ _ _ h1))
end
theorem x7j {g:Gh} {w:World} {M M0:Blks} {id b:Nat} {an:Option Nat} {t:TypeId} {cs:List Slot} {us:List V} (h:RepO g w M id (.box an t cs)) (hb:g.bl id=some b) (hm:¬ M0 b) (hl:cs.length=us.length) (hc:∀ (j:Nat) (s:Slot) (u:V),cs[j]?=some s→us[j]?=some u→∀ x,RepS g w M s x→u.p w M0 x):(zx [us] 0 0).p w M0 (PB b):=by
 obtain ⟨b',l,q1,q0,q2,q3,q4⟩:=h
 rw [hb] at q1
 cases q1
 refine ⟨b,0,us.length,by simp [PB],hm,l.toArray,t,(0,0),q2,fun el he=>by simp at he; rw [he],fun k c el u hk hc' => ?_⟩
 have hk0:k=0:=by have:=(List.getElem?_eq_some_iff.1 hk).1; simp at this; exact this
 subst hk0
 simp at hk
 subst hk
 have hcl:c < cs.length:=by have:=(List.getElem?_eq_some_iff.1 hc').1; omega
 obtain ⟨s,hs⟩:∃ s,cs[c]?=some s:=⟨_,List.getElem?_eq_getElem hcl⟩
 obtain ⟨x,r1,r2,r3⟩:=q4 c s hs
 exact ⟨x,by simpa using r1,hc c s u hs hc' x r2,r3⟩
theorem y8y {κ τ:Type} {T:MT κ τ} {L:List (κ×τ)} {g:Gh} {w:World} {M M0:Blks} {id b:Nat} {an:Option Nat} (h:RepO g w M id (.opq an (z3m T L))) (hb:g.bl id=some b) (hm:¬ M0 b):(vmpG T L).p w M0 (.map (some b)):=by
 obtain ⟨b',o,q1,q0,q2,es,clock,rfl,hE⟩:=h
 rw [hb] at q1
 cases q1
 exact ⟨b,es,clock,rfl,hm,q2,hE⟩
end Go.Proofs.YtgdijjmdfcgifaaGreat
namespace Go.Proofs.YtgdijjmdfcgifaaGreat
open Go.RowKit Go.ChangeMaps Go.MapKept
set_option linter.unusedVariables false
def vtt:V:=⟨fun _ _ _=>True,false,fun _ _=>trivial,fun h=>by cases h⟩
def vhd (h:Value):V:=⟨fun _ _ v=>v=h∧v.oneCell'=true,true,fun _ h=>h,fun _ _ _ v hv=>hv.2⟩
def EntI (P:Program) (o:Oper) (fn:Nat) (f:Nat→Slot) (args:List V):Prop:=
 ∀ (X:Ctx) (own:Own) (g:Gh) (a:Act) (w:World),Rel X f own g a w→∃ vs:Array Value,(execOp a.eval o).run P w = .ok (.enter fn vs) w∧vs.size=args.length∧∀ (j:Nat) (u:V),args[j]?=some u→∃ v,vs[j]?=some v∧u.p w (Mof X g own) v
def OpI {ι:Type} (P:Program) (o:Oper) (f:Nat→Slot) (own:Own) (F:ι→Nat→Slot) (O:ι→Own):Prop:=
 ∀ (X:Ctx) (g:Gh) (a:Act) (w:World) (Q:Exit→Act→World→Prop) (K:Act→World→Prop),Rel X f own g a w→(∀ d,o.dst=some d→d < X.N)→(∀ y g' v w',Rel X (F y) (O y) g' (a.put o.dst v) w'→K (a.put o.dst v) w')→o.wp P a w K Q
theorem x6r {own:Own} {g G:Gh} {w w':World} {M M':Blks} (hG:∀ i,qp own i=true→G.bl i=g.bl i∧∀ n,G.sv i n=g.sv i n) (he:Ext M M' w w') {c:Cmp} {v:Value} (hs:okC own c=true) (h:RepC g w M c v):RepC G w' M' c v:=by
 cases c with
 | dat u=>exact u.keep he h
 | ptr id off=>obtain ⟨b,h1,h2⟩:=h; exact ⟨b,(hG id hs).1.trans h1,h2⟩
 | row id n=>exact ((hG id hs).2 n).trans h
 | mp id=>obtain ⟨b,h1,h2⟩:=h; exact ⟨b,(hG id hs).1.trans h1,h2⟩
theorem y8d {own:Own} {g G:Gh} {w w':World} {M M':Blks} (hG:∀ i,qp own i=true→G.bl i=g.bl i∧∀ n,G.sv i n=g.sv i n) (he:Ext M M' w w') {s:Slot} {v:Value} (hs:okS own s=true) (h:RepS g w M s v):RepS G w' M' s v:=by
 cases s with
 | any=>trivial
 | dat u=>exact u.keep he h
 | ptr id off=>obtain ⟨b,h1,h2⟩:=h; exact ⟨b,(hG id hs).1.trans h1,h2⟩
 | row id n=>exact ((hG id hs).2 n).trans h
 | rptr id n size k c=>obtain ⟨b,cap,h1,h2⟩:=h; exact ⟨b,cap,((hG id hs).2 n).trans h1,h2⟩
 | mp id=>obtain ⟨b,h1,h2⟩:=h; exact ⟨b,(hG id hs).1.trans h1,h2⟩
 | rsub id n size k=>obtain ⟨b,cap,h1,h2⟩:=h; exact ⟨b,cap,((hG id hs).2 n).trans h1,h2⟩
 | nptr id =>
  rcases h with h | ⟨b,h1,h2⟩
  ·exact .inl h
  ·exact .inr ⟨b,(hG id hs).1.trans h1,h2⟩
 | dr id u=>obtain ⟨b,h1,h2⟩:=h; exact ⟨b,(hG id hs).1.trans h1,(u b).keep he h2⟩
 | comp tup cs=>exact kq.mono h fun c x hc hx=>x6r hG he (List.all_eq_true.1 hs c hc) hx
theorem x6q {own:Own} {g G:Gh} {w w':World} {M M':Blks} (hG:∀ i,qp own i=true→G.bl i=g.bl i∧∀ n,G.sv i n=g.sv i n) (he:Ext M M' w w') {id:Nat} {o:AObj} (hid:qp own id=true) (hs:okO own o=true) (hb:∀ b,obk g id o=some b→w'.heap[b]?=w.heap[b]?) (h:RepO g w M id o):RepO G w' M' id o:=by
 obtain ⟨e1,e2⟩:=hG id hid
 cases o with
 | box an t cs =>
  obtain ⟨b,l,h1,h0,h2,h3,h4⟩:=h
  refine ⟨b,l,e1.trans h1,h0,(hb b h1).trans h2,h3,fun j s hj => ?_⟩
  obtain ⟨x,g1,g2,g3⟩:=h4 j s hj
  exact ⟨x,g1,y8d hG he (List.all_eq_true.1 hs s (List.mem_of_getElem? hj)) g2,g3⟩
 | row t size es =>
  obtain ⟨v,xs,h1,h2,h3,h4,h5⟩:=h
  refine ⟨v,xs,(e2 _).trans h1,⟨h2.1,?_⟩,h3,h4,fun k c el u hk hc => ?_⟩
  ·rcases h2.2 with hn | ⟨q,cap,cur,hv,hb',hq,hr⟩
   ·exact .inl hn
   ·exact .inr ⟨q,cap,cur,hv,hb',(hb q (by simp only [obk,h1,Option.bind_some]; rw [hv]; rfl)).trans hq,hr⟩
  ·obtain ⟨x,g1,g2,g3⟩:=h5 k c el u hk hc
   exact ⟨x,g1,u.keep he g2,g3⟩
 | opq an R=>obtain ⟨b,o,h1,h0,h2,h3⟩:=h; exact ⟨b,o,e1.trans h1,h0,(hb b h1).trans h2,h3⟩
 | rowA v t size es =>
  obtain ⟨xs,h1,h2,h3,h4,h5⟩:=h
  refine ⟨xs,(e2 _).trans h1,⟨h2.1,?_⟩,h3,h4,fun k c el u hk hc => ?_⟩
  ·rcases h2.2 with hn | ⟨q,cap,cur,hv,hb',hq,hr⟩
   ·exact .inl hn
   ·exact .inr ⟨q,cap,cur,hv,hb',(hb q (by simp only [obk]; rw [hv]; rfl)).trans hq,hr⟩
  ·obtain ⟨x,g1,g2,g3⟩:=h5 k c el u hk hc
   exact ⟨x,g1,u.keep he g2,g3⟩
theorem Yu {l R:List (Nat×AObj)} (nd:((l++R).map (·.1)).Nodup) {i:Nat} (h:qp (ows R) i=true):qp (ows (l++R)) i=true:=by
 have ndR:(R.map (·.1)).Nodup:=by rw [List.map_append] at nd; exact (List.nodup_append.1 nd).2.1
 obtain ⟨o,ho⟩:=jy h
 unfold qp
 rw [(qg nd).2 (List.mem_append_right _ ((qg ndR).1 ho))]
theorem y8c {l R:List (Nat×AObj)} (nd:((l++R).map (·.1)).Nodup) {s:Slot} (h:okS (ows R) s=true):okS (ows (l++R)) s=true:=by
 cases s with
 | any=>rfl
 | dat _=>rfl
 | ptr id _=>exact Yu nd h
 | row id _=>exact Yu nd h
 | rptr id _ _ _ _=>exact Yu nd h
 | mp id=>exact Yu nd h
 | rsub id _ _ _=>exact Yu nd h
 | nptr id=>exact Yu nd h
 | dr id _=>exact Yu nd h
 | comp tup cs =>
  refine List.all_eq_true.2 fun c hc => ?_
  have:=List.all_eq_true.1 h c hc
  cases c with
  | dat _=>rfl
  | ptr id _=>exact Yu nd this
  | row id _=>exact Yu nd this
  | mp id=>exact Yu nd this
theorem y4p {P:Program} {o:Oper} {f:Nat→Slot} {own:Own} {ι:Type} {fn:Nat} {args:List V} {pre R:List (Nat×AObj)} {res:ι→V} {post:ι→List (Nat×AObj)} {lf:List (Nat×Slot)} (hF:FnI P fn args pre res post) (ha:EntI P o fn (frs lf) args)
  (hcp:∀ p,p∈pre→clO p.2=true) (hcq:∀ y p,p∈post y→clO p.2=true) (nd:((pre++R).map (·.1)).Nodup) (nq:∀ y,((post y++R).map (·.1)).Nodup) (hlf:lf.all (fun p=>okS (ows R) p.2)=true) (hR:∀ p,p∈R→okO (ows R) p.2=true) (hf:subF f lf) (ho:subO own (pre++R)) :
  OpI P o f own (fun y=>updS (frs lf) o.dst (.dat (res y))) (fun y=>ows (post y++R)):=by
 intro X g0 a w Q K hr0 hd hK
 have hok:okL lf (pre++R)=true:=by
  unfold okL
  rw [Bool.and_eq_true]
  refine ⟨List.all_eq_true.2 fun p hp=>y8c nd (List.all_eq_true.1 hlf p hp),List.all_eq_true.2 fun p hp => ?_⟩
  obtain ⟨i,q⟩:=p
  rcases List.mem_append.1 hp with hp | hp
  ·have h3:=hcp _ hp
   cases q with
   | box an t cs=>exact List.all_eq_true.2 fun s hs=>z9o (List.all_eq_true.1 h3 s hs)
   | row _ _ _=>rfl
   | opq _ _=>rfl
   | rowA _ _ _ _=>rfl
  ·have h3:=hR _ hp
   cases q with
   | box an t cs=>exact List.all_eq_true.2 fun s hs=>y8c nd (List.all_eq_true.1 h3 s hs)
   | row _ _ _=>rfl
   | opq _ _=>rfl
   | rowA _ _ _ _=>rfl
 obtain ⟨g,hr⟩:=hr0.less lf (pre++R) hf ho hok
 have nd':=nd
 rw [List.map_append] at nd'
 have ndp:(pre.map (·.1)).Nodup:=(List.nodup_append.1 nd').1
 have ndR:(R.map (·.1)).Nodup:=(List.nodup_append.1 nd').2.1
 have hdis:∀ k,k∈pre.map (·.1)→k∈R.map (·.1)→False:=fun k h1 h2=>(List.nodup_append.1 nd').2.2 k h1 k h2 rfl
 have inP:∀ i o,ows pre i=some (some o)→ows (pre++R) i=some (some o):=fun i o h=>(qg nd).2 (List.mem_append_left _ ((qg ndp).1 h))
 have inR:∀ i o,(i,o)∈R→ows (pre++R) i=some (some o):=fun i o h=>(qg nd).2 (List.mem_append_right _ h)
 have keyP:∀ i o,ows pre i=some (some o)→i∈pre.map (·.1):=fun i o h=>List.mem_map.2 ⟨_,(qg ndp).1 h,rfl⟩
 have clP:∀ i o,ows pre i=some (some o)→clO o=true:=fun i o h=>hcp _ ((qg ndp).1 h)
 have hlv:∀ i o,(i,o)∈R→qp (ows R) i=true:=fun i o h=>by unfold qp; rw [(qg ndR).2 h]
 let S0:List Nat:=pre.filterMap fun p=>obk g p.1 p.2
 have hS0:∀ b,b∈S0↔∃ id o,ows pre id=some (some o)∧obk g id o=some b:=fun b=>by
  simp only [S0,List.mem_filterMap]
  constructor
  ·rintro ⟨⟨i,o⟩,h1,h2⟩; exact ⟨i,o,(qg ndp).2 h1,h2⟩
  ·rintro ⟨i,o,h1,h2⟩; exact ⟨(i,o),(qg ndp).1 h1,h2⟩
 let M:Blks:=Mof X g (ows (pre++R))
 have hlt:Mlt w M:=hr.mlt
 let X':Ctx:=⟨fun b=>M b∧b ∉ S0,w,S0,0,none,[]⟩
 let g':Gh:=⟨fun i=>if i∈pre.map (·.1) then g.bl i else none,fun i n=>if i∈pre.map (·.1) then g.sv i n else none⟩
 have g1:∀ i o,ows pre i=some (some o)→g'.bl i=g.bl i:=fun i o h=>if_pos (keyP i o h)
 have g2':∀ i o,ows pre i=some (some o)→∀ n,g'.sv i n=g.sv i n:=fun i o h n=>if_pos (keyP i o h)
 have hSM:∀ b,b∈S0→M b:=fun b hb=>by
  obtain ⟨i,o,h1,h2⟩:=(hS0 b).1 hb
  exact .inr ⟨i,o,inP i o h1,h2⟩
 have hm0:∀ b,X.M0 b→b ∉ S0:=fun b h hs=>by
  obtain ⟨id,o,h1,h2⟩:=(hS0 b).1 hs
  have h5:=hr.m0.1 b h
  rcases hr.mine id o b (inP _ _ h1) h2 with h6 | h6
  ·exact h5.2 h6
  ·have:=h5.1
   omega
 have hRS:∀ k o b,(k,o)∈R→obk g k o=some b→b ∉ S0:=fun k o b h1 h2 hs=>by
  obtain ⟨i,o',h3,h4⟩:=(hS0 b).1 hs
  have:=hr.sep k i o o' b (inR k o h1) (inP i o' h3) h2 h4
  subst this
  exact hdis k (keyP k o' h3) (List.mem_map.2 ⟨_,h1,rfl⟩)
 have hMsub:∀ b,Mof X' g' (ows pre) b→M b:=fun b hb=>by
  rcases hb with hb | ⟨i,o,h1,h2⟩
  ·exact hb.1
  ·rw [ug (g1 i o h1) (g2' i o h1)] at h2
   exact .inr ⟨i,o,inP i o h1,h2⟩
 have heM:Ext M (Mof X' g' (ows pre)) w w:=⟨Nat.le_refl _,fun _ _ _ _=>rfl,fun b _ h=>hMsub b h⟩
 have hmem:Mem X' (ows pre) g' w:=by
  refine ⟨Kp.refl _ _,⟨fun b hb=>⟨hlt.1 b hb.1,hb.2⟩,hlt.2.1,fun b hb=>⟨fun h=>hlt.2.2 b hb h.1,fun h=>hlt.2.2 b hb (hSM b h)⟩⟩,fun i o h => ?_,fun i i' o o' b h1 h2 h3 h4 => ?_,fun i o b h1 h2 => ?_,fun i hi => ?_,fun i e size es h k hk => ?_⟩
  ·exact (z0g (clP i o h) (g1 i o h) (g2' i o h) (hr.ob i o (inP i o h))).keep heM (Gh.le_refl _) fun b _=>rfl
  ·rw [ug (g1 i o h1) (g2' i o h1)] at h3
   rw [ug (g1 i' o' h2) (g2' i' o' h2)] at h4
   exact hr.sep i i' o o' b (inP _ _ h1) (inP _ _ h2) h3 h4
  ·rw [ug (g1 i o h1) (g2' i o h1)] at h2
   exact .inl ((hS0 b).2 ⟨i,o,h1,h2⟩)
  ·have hn:=jp.1 hi
   exact ⟨if_neg hn,fun n=>if_neg hn⟩
  ·rw [g2' i _ h]
   exact hr.top i e size es (inP _ _ h) k hk
 obtain ⟨vs,hrun,hsz,hvs⟩:=ha X _ g a w hr
 unfold Oper.wp
 rw [hrun]
 show Calls P fn vs w _
 refine (hF.2 X' g' w vs rfl hmem hsz fun j u hj => ?_).mono ?_
 ·obtain ⟨v,h1,h2⟩:=hvs j u hj
  exact ⟨v,h1,u.keep heM h2⟩
 rintro e w' ⟨y,v,g2,rfl,hm2,hres⟩
 have hkp:Kp S0 w w':=hm2.kp
 have nq':=nq y
 rw [List.map_append] at nq'
 have ndq:((post y).map (·.1)).Nodup:=(List.nodup_append.1 nq').1
 have hdq:∀ k,k∈(post y).map (·.1)→k∈R.map (·.1)→False:=fun k h1 h2=>(List.nodup_append.1 nq').2.2 k h1 k h2 rfl
 let G:Gh:=⟨fun i=>if i∈R.map (·.1) then g.bl i else g2.bl i,fun i n=>if i∈R.map (·.1) then g.sv i n else g2.sv i n⟩
 have c1:∀ i,i ∉ R.map (·.1)→G.bl i=g2.bl i∧∀ n,G.sv i n=g2.sv i n:=fun i h=>⟨if_neg h,fun n=>if_neg h⟩
 have c2:∀ i,qp (ows R) i=true→G.bl i=g.bl i∧∀ n,G.sv i n=g.sv i n:=fun i h=>by
  obtain ⟨o,ho⟩:=jy h
  have hm:i∈R.map (·.1):=List.mem_map.2 ⟨_,(qg ndR).1 ho,rfl⟩
  exact ⟨if_pos hm,fun n=>if_pos hm⟩
 have hown:∀ k o,ows (post y++R) k=some (some o)→(ows (post y) k=some (some o)∧clO o=true∧k ∉ R.map (·.1))∨(k,o)∈R:=fun k o h=>by
  rcases List.mem_append.1 ((qg (nq y)).1 h) with h1 | h1
  ·exact .inl ⟨(qg ndq).2 h1,hcq y _ h1,fun h2=>hdq k (List.mem_map.2 ⟨_,h1,rfl⟩) h2⟩
  ·exact .inr h1
 have hblk:∀ k o b,ows (post y++R) k=some (some o)→obk G k o=some b→(ows (post y) k=some (some o)∧obk g2 k o=some b)∨((k,o)∈R∧obk g k o=some b):=fun k o b h hb=>by
  rcases hown k o h with ⟨h1,h2,h3⟩ | h1
  ·rw [ug (c1 k h3).1 (c1 k h3).2] at hb; exact .inl ⟨h1,hb⟩
  ·rw [ug (c2 k (hlv _ _ h1)).1 (c2 k (hlv _ _ h1)).2] at hb; exact .inr ⟨h1,hb⟩
 have hMn:∀ b,Mof X G (ows (post y++R)) b→Mof X' g2 (ows (post y)) b:=fun b hb=>by
  rcases hb with hb | ⟨k,o,h1,h2⟩
  ·exact .inl ⟨.inl hb,hm0 b hb⟩
  ·rcases hblk k o b h1 h2 with ⟨q1,q2⟩ | ⟨q1,q2⟩
   ·exact .inr ⟨k,o,q1,q2⟩
   ·exact .inl ⟨.inr ⟨k,o,inR k o q1,q2⟩,hRS k o b q1 q2⟩
 have heO:Ext (Mof X' g2 (ows (post y))) (Mof X G (ows (post y++R))) w' w':=⟨Nat.le_refl _,fun _ _ _ _=>rfl,fun b _ h=>hMn b h⟩
 have he:Ext M (Mof X G (ows (post y++R))) w w':=by
  refine ⟨hkp.size,fun b hb hM _=>hkp.block b hb fun h=>hM (hSM b h),fun b hb hM => ?_⟩
  rcases hMn b hM with h1 | ⟨i,o,h1,h2⟩
  ·exact h1.1
  ·rcases hm2.mine i o b h1 h2 with h3 | h3
   ·exact hSM b h3
   ·have h4:w.heap.size≤b:=h3
    omega
 have hpB:∀ k o b,ows (post y) k=some (some o)→obk g2 k o=some b→b∈S0∨w.heap.size≤b:=fun k o b h1 h2=>hm2.mine k o b h1 h2
 have hRl:∀ k o b,(k,o)∈R→obk g k o=some b→b < w.heap.size:=fun k o b h1 h2=>(hr.ob k o (inR k o h1)).blk_lt h2
 have hrel:Rel X (frs lf) (ows (post y++R)) G a w':=by
  refine ⟨hr.kp.trans hkp fun q hq => ?_,hr.m0,hr.n,hr.df,fun t => ?_,fun k o h => ?_,fun k k' o o' b h1 h2 h3 h4 => ?_,fun k o b h1 h2 => ?_,fun k hk => ?_,fun k e size es h n hn => ?_⟩
  ·obtain ⟨id,o,h1,h2⟩:=(hS0 q).1 hq
   exact hr.mine id o q (inP _ _ h1) h2
  ·exact y8d c2 he (y4a lf hlf t) (hr.fr t)
  ·rcases hown k o h with ⟨h1,h2,h3⟩ | h1
   ·exact (z0g h2 (c1 k h3).1 (c1 k h3).2 (hm2.ob k o h1)).keep heO (Gh.le_refl _) fun b _=>rfl
   ·have h5:=hr.ob k o (inR k o h1)
    exact x6q c2 he (hlv _ _ h1) (hR _ h1) (fun b hb=>hkp.block b (h5.blk_lt hb) (hRS k o b h1 hb)) h5
  ·rcases hblk k o b h1 h3 with ⟨q1,q2⟩ | ⟨q1,q2⟩ <;> rcases hblk k' o' b h2 h4 with ⟨r1,r2⟩ | ⟨r1,r2⟩
   ·exact hm2.sep k k' o o' b q1 r1 q2 r2
   ·exfalso
    rcases hpB k o b q1 q2 with h5 | h5
    ·exact hRS k' o' b r1 r2 h5
    ·have:=hRl k' o' b r1 r2; omega
   ·exfalso
    rcases hpB k' o' b r1 r2 with h5 | h5
    ·exact hRS k o b q1 q2 h5
    ·have:=hRl k o b q1 q2; omega
   ·exact hr.sep k k' o o' b (inR _ _ q1) (inR _ _ r1) q2 r2
  ·rcases hblk k o b h1 h2 with ⟨q1,q2⟩ | ⟨q1,q2⟩
   ·rcases hpB k o b q1 q2 with h5 | h5
    ·obtain ⟨i,o',h6,h7⟩:=(hS0 b).1 h5
     exact hr.mine i o' b (inP _ _ h6) h7
    ·exact .inr (Nat.le_trans hr.kp.size h5)
   ·exact hr.mine k o b (inR _ _ q1) q2
  ·have hn:=jp.1 hk
   rw [List.map_append,List.mem_append,not_or] at hn
   obtain ⟨e1,e2⟩:=c1 k hn.2
   obtain ⟨f1,f2⟩:=hm2.fresh k (jp.2 hn.1)
   exact ⟨e1.trans f1,fun n=>(e2 n).trans (f2 n)⟩
  ·rcases hown k _ h with ⟨h1,_,h3⟩ | h1
   ·rw [(c1 k h3).2]
    exact hm2.top k e size es h1 n hn
   ·rw [(c2 k (hlv _ _ h1)).2]
    exact hr.top k e size es (inR _ _ h1) n hn
 exact hK y G v w' (hrel.put o.dst (.dat (res y)) v hd ((res y).keep heO hres))
theorem uz {P:Program} {o:Oper} {f:Nat→Slot} {own:Own} {ι:Type} {fn:Nat} {args:List V} {pre:List (Nat×AObj)} {res:ι→V} {post:ι→List (Nat×AObj)} (lf:List (Nat×Slot)) (R:List (Nat×AObj)) (hF:FnI P fn args pre res post) (ha:EntI P o fn (frs lf) args) (hf:subF f lf) (ho:subO own (pre++R))
  (h:(lf.all (fun p=>okS (ows R) p.2) && R.all (fun p=>okO (ows R) p.2) && pre.all (fun p=>clO p.2) && ndB ((pre++R).map (·.1)))=true) (hq:∀ y,((post y).all (fun p=>clO p.2) && ndB ((post y++R).map (·.1)))=true) :
  OpI P o f own (fun y=>updS (frs lf) o.dst (.dat (res y))) (fun y=>ows (post y++R)):=by
 simp only [Bool.and_eq_true] at h hq
 obtain ⟨⟨⟨h1,h2⟩,h3⟩,h4⟩:=h
 exact y4p hF ha (List.all_eq_true.1 h3) (fun y=>List.all_eq_true.1 (hq y).1) (Zq h4) (fun y=>Zq (hq y).2) h1 (List.all_eq_true.1 h2) hf ho
section
variable {P:Program} {f:Nat→Slot} {dst:Option Tmp} {ty:TypeId} {pos:String} {af:Array Edge} {gd:Option (Nat×Bool)}
theorem x1c {X:Ctx} {own:Own} {g:Gh} {a:Act} {w:World} {xs:List Operand} {us:List V} (hr:Rel X f own g a w) (ha:xs.map (evS f)=us.map Slot.dat) (j:Nat) (u:V) (hj:us[j]?=some u):∃ v,(xs.toArray.map a.eval)[j]?=some v∧u.p w (Mof X g own) v:=by
 have h1:(xs.map (evS f))[j]?=some (.dat u):=by rw [ha,List.getElem?_map,hj]; rfl
 rw [List.getElem?_map] at h1
 obtain ⟨x,hx,h2⟩:=Option.map_eq_some_iff.1 h1
 refine ⟨a.eval x,by simp [hx],?_⟩
 have h3:=hr.ev x
 rw [h2] at h3
 exact h3
theorem kh {fn:Nat} {xs:List Operand} {ts:Array TypeId} {args:List V} (hc:ki P fn=true) (ha:xs.map (evS f)=args.map Slot.dat):EntI P ⟨dst,.call { callee := .value (.func fn),args:=xs.toArray,argTypes:=ts },ty,pos,af,gd⟩ fn f args:=by
 intro X own g a w hr
 have hlen:xs.length=args.length:=by have:=congrArg List.length ha; simpa using this
 exact ⟨_,z1m hc xs.toArray ts a.eval rfl w,by simp [hlen],x1c hr ha⟩
theorem z4u {t:Tmp} {fn:Nat} {xs:List Operand} {ts:Array TypeId} {us cs:List V} (hc:ki P fn=true) (hf:f t = .dat (vfn fn cs)) (ha:xs.map (evS f)=us.map Slot.dat):EntI P ⟨dst,.call { callee := .value (.tmp t),args:=xs.toArray,argTypes:=ts },ty,pos,af,gd⟩ fn f (us++cs):=by
 intro X own g a w hr
 have hlen:xs.length=us.length:=by have:=congrArg List.length ha; simpa using this
 have h1:=hr.ev (.tmp t)
 rw [show evS f (.tmp t)=f t from rfl,hf] at h1
 obtain ⟨l,h2,h3⟩:=h1
 refine ⟨_,y7i hc (.tmp t) xs.toArray ts l.toArray a.eval h2 w,by simp [hlen,h3.1],fun j u hj => ?_⟩
 rcases Nat.lt_or_ge j us.length with hl | hl
 ·rw [List.getElem?_append_left hl] at hj
  obtain ⟨v,q1,q2⟩:=x1c hr ha j u hj
  refine ⟨v,?_,q2⟩
  rw [Array.getElem?_append_left (by simp [hlen]; exact hl)]
  exact q1
 ·rw [List.getElem?_append_right hl] at hj
  obtain ⟨x,q1,q2⟩:=h3.2 _ u hj
  refine ⟨x,?_,q2⟩
  rw [Array.getElem?_append_right (by simp [hlen]; exact hl)]
  simpa [hlen] using q1
end
section
variable {P:Program} {X:Ctx} {Q:Exit→(Nat→Slot)→Own→Prop} {f:Nat→Slot} {own:Own}
theorem jd {ι:Type} {id N:Nat} {ops:Array Oper} {os1 os2:List Oper} {o:Oper} (hX:X.N=N) (hops:ops.toList=os1++o::os2) (hg:o.guard=none) (hN:xw N ops=true)
  (h:seqA P ops os1 f own [] fun f1 own1 _=>∃ (F:ι→Nat→Slot) (O:ι→Own),OpI P o f1 own1 F O ∧
   ∀ y,seqA P ops os2 (F y) (O y) [] fun f2 own2 _=>Q .normal f2 own2):AWP P X (.region id ops false) Q f own:=by
 subst hX
 intro g a w hr
 refine wpIn_region ?_
 have hsz:ops.size=os1.length+(os2.length+1):=by
  have:=congrArg List.length hops
  simpa using this
 have hom:=congrArg (fun l=>l[os1.length]?) hops
 simp only [List.getElem?_append_right (Nat.le_refl _),Nat.sub_self,List.getElem?_cons_zero,Array.getElem?_toList] at hom
 have e:List.range ops.size=List.range' 0 (os1.length+(os2.length+1)):=by rw [hsz,List.range_eq_range']
 rw [e]
 refine x5m (P:=P) (X:=X) hN os1 (_::os2) 0 f own [] g a w (by simpa using hops) hr (y24 os1 _ _ _ h ?_)
 intro f1 own1 lg1 hI g a w hr
 obtain ⟨F,O,c1,c8⟩:=hI
 rw [Nat.zero_add,List.length_cons,List.range'_succ,wpOpsIn_cons]
 obtain ⟨hdN,hdf⟩:=z1o hN hom
 unfold wpOpIn
 rw [hom]
 have hw:Region.wanted o (yielded ops a.tmps)=true:=by unfold Region.wanted; rw [hg]
 simp only [hw,if_true]
 refine z00 hdf (c1 X g a w _ _ hr hdN fun y g' v w' hr' => ?_)
 exact y69 (P:=P) (X:=X) (Q:=Q) hN os2 (os1.length+1) _ _ _ g' _ w' (by rw [hops,List.drop_append]; simp) hr' (y24 os2 _ _ _ (c8 y) fun _ _ _ h=>h)
theorem y3j {β:Type} {W:Nat→List (Nat×β)} {D:Nat→Bool} {f:Nat→β} {m:Nat} (h1:∀ j,j < m→D j=true) (h2:∀ j,m≤j→D j=false):∀ n,m≤n→memD W D f n=memD W (fun _=>true) f m
 | 0,h=>by
  obtain rfl:m=0:=by omega
  rfl
 | n+1,h=>by
  rcases Nat.lt_or_ge n m with hl | hl
  ·obtain rfl:m=n+1:=by omega
   exact z56 h1
  ·simp only [memD,h2 n hl,Bool.false_eq_true,if_false]
   exact y3j h1 h2 n hl
def befB (ops:Array Oper) (m:Nat):Bool:=(List.range m).all fun j=>(jk ops ops.size m).contains j
theorem w10 {ι:Type} {id N m:Nat} {ops:Array Oper} {os1:List Oper} {o:Oper} (hm:P.follows .mixedOrders=true) (hX:X.N=N) (hops:ops.toList=os1++[o]) (hlen:os1.length=m) (hg:o.guard=none) (hE:Qa ops=true) (hN:xw N ops=true) (hbef:befB ops m=true)
  (h:seqA P ops os1 f own [] fun f1 own1 lg1=>Zf ops ((([],[]):List Nat×List Nat)::lg1).reverse=true∧∃ (F:ι→Nat→Slot) (O:ι→Own),OpI P o f1 own1 F O∧∀ y,Q .normal (F y) (O y)):AWP P X (.region id ops true) Q f own:=by
 classical
 subst hX
 subst hlen
 intro g a w hr
 refine wpIn_region_any hm ?_
 have hsz:ops.size=os1.length+1:=by
  have:=congrArg List.length hops
  simpa using this
 have hom:ops[os1.length]?=some o:=by
  have:=congrArg (fun l=>l[os1.length]?) hops
  simpa using this
 obtain ⟨T1,lg1,_,a2,a3,a4,hcf,F,O,c1,c8⟩:=y67 (P:=P) (ops:=ops) (tl:=[o]) os1 0 (fun _=>⟨false,[],[],.any⟩) f own [] _ (by simpa using hops) (Nat.zero_le _) rfl (fun j hj=>absurd hj (by omega)) h
 rw [Nat.zero_add] at a2 a3 a4 c1
 let T:Nat→Tr:=fun j=>if j=os1.length then ⟨false,[],[],.any⟩ else T1 j
 have hT:∀ j,j≠os1.length→T j=T1 j:=fun j hj=>if_neg hj
 have hTm:T os1.length=⟨false,[],[],.any⟩:=if_pos rfl
 have eW:∀ n,n≤os1.length→memD (Wf ops T) (fun _=>true) f n=memD (Wf ops T1) (fun _=>true) f n:=fun n hn=>Qx _ fun j hj _=>by unfold Wf; rw [hT j (by omega)]
 have eO:∀ n,n≤os1.length→memD (Wo T) (fun _=>true) own n=memD (Wo T1) (fun _=>true) own n:=fun n hn=>Qx _ fun j hj _=>by unfold Wo; rw [hT j (by omega)]
 have hlg:∀ q,q < ops.size→((([],[]):List Nat×List Nat)::lg1).reverse.getD q ([],[])=(keys (T q).rd,keys (T q).wr):=fun q hq=>by
  rw [List.getD_eq_getElem?_getD,List.reverse_cons]
  rcases Nat.lt_or_ge q os1.length with hl | hl
  ·rw [List.getElem?_append_left (by simp [a2]; omega),a3 q hl,hT q (by omega)]; rfl
  ·obtain rfl:q=os1.length:=by omega
   rw [List.getElem?_append_right (by simp [a2]),hTm]; simp [a2]; rfl
 refine y28 (P:=P) (X:=X) os1.length (fun listed=>listed.getD os1.length false=false) T f own hE hN (fun listed i hi hI => ?_) (fun k hk=>by rw [hTm] at hk; cases hk) (fun i o' hi ho' => ?_) (fun i j hij hjn hc => ?_) (fun listed hI hall=>by
  have:=hall os1.length (by omega)
  rw [hI] at this; cases this) ?_ _ _ g a _ (Zs _ _) (by simp) ?_ (fun j o ho hj => ?_) ?_
 ·rw [Array.getD_eq_getD_getElem?,Array.getElem?_setIfInBounds,if_neg hi,← Array.getD_eq_getD_getElem?]; exact hI
 ·have hl:i < os1.length:=by
   have:=(Array.getElem?_eq_some_iff.1 ho').1
   omega
  rw [eW i (by omega),eO i (by omega),hT i hi]
  exact a4 i o' (Nat.zero_le _) hl ho'
 ·unfold Zf at hcf
  rw [List.all_eq_true] at hcf
  have h1:=hcf j (List.mem_range.2 hjn)
  rw [List.all_eq_true] at h1
  have h2:=h1 i (List.mem_range.2 hij)
  have e2:ww ops (fun i=>(((([],[]):List Nat×List Nat)::lg1).reverse.getD i ([],[])).1) (fun i=>(((([],[]):List Nat×List Nat)::lg1).reverse.getD i ([],[])).2) i j=ww ops (fun i=>keys (T i).rd) (fun i=>keys (T i).wr) i j:=by
   unfold ww
   simp only [hlg i (by omega),hlg j hjn]
  rw [e2,hc] at h2
  simpa using h2
 ·intro fuel listed g a w hI hs hc hd _ h1 hall hfore hf ho' hr
  have hback:∀ j,j < os1.length→listed.getD j false=true:=fun j hj=>by
   have hD2:∀ j' o',ops[j']?=some o'→(fun x=>listed.getD x false || decide (x=os1.length)) j'=true→∀ e∈o'.after,Region.binds .any e=true→(fun x=>listed.getD x false || decide (x=os1.length)) e.on=true:=by
    intro j' o' ho' hj' e he hb
    by_cases hji:j'=os1.length
    ·subst hji
     simp only [hall o' ho' e he hb,Bool.true_or]
    ·have:listed.getD j' false=true:=by simpa [hji] using hj'
     simp only [hd j' o' ho' this e he hb,Bool.true_or]
   have h3:j∈jk ops ops.size os1.length:=by
    unfold befB at hbef
    have:=List.all_eq_true.1 hbef j (List.mem_range.2 hj)
    simpa using this
   have h2:=z7v hD2 ops.size os1.length j h3 (by simp)
   have hne:j≠os1.length:=by omega
   simpa [hne] using h2
  have hoff:∀ j,os1.length≤j→listed.getD j false=false:=fun j hj=>by
   rcases Nat.lt_or_ge os1.length j with hl | hl
   ·rw [Array.getD_eq_getD_getElem?,Array.getElem?_eq_none (by omega)]; rfl
   ·obtain rfl:j=os1.length:=by omega
    exact h1
  rw [y3j hback hoff _ (by omega),y3j hback hoff _ (by omega),eW _ (Nat.le_refl _),eO _ (Nat.le_refl _)] at hr
  obtain ⟨hdN,hdf⟩:=z1o hN hom
  unfold wpOpIn
  rw [hom]
  have hw:Region.wanted o (yielded ops a.tmps)=true:=by unfold Region.wanted; rw [hg]
  simp only [hw,if_true]
  refine z00 hdf (c1 X g a w _ _ hr hdN fun y g' v w' hr' => ?_)
  have hset:∀ j,(listed.setIfInBounds os1.length true).getD j false=(listed.getD j false || decide (j=os1.length)):=by
   intro j
   rw [Array.getD_eq_getD_getElem?,Array.getD_eq_getD_getElem?,Array.getElem?_setIfInBounds]
   by_cases hj:os1.length=j
   ·subst hj; simp [hs,hsz]
   ·rw [if_neg hj]; simp [Ne.symm hj]
  have hz:∀ i,i < ops.size→(listed.setIfInBounds os1.length true).getD i false=true:=fun i hi=>by
   rw [hset]
   rcases Nat.lt_or_ge i os1.length with hl | hl
   ·rw [hback i hl]; rfl
   ·obtain rfl:i=os1.length:=by omega
    simp
  have hc0:∀ n,n≤ops.size→cnt (fun i=>(listed.setIfInBounds os1.length true).getD i false) n=0:=by
   intro n
   induction n with
   | zero=>intro _; rfl
   | succ n ihn=>intro hn; simp only [cnt,ihn (by omega),hz n (by omega)]; rfl
  have hcs:=y1c (D:=fun i=>listed.getD i false) (n:=ops.size) (by omega) h1 hset
  have hc1:=hc0 ops.size (Nat.le_refl _)
  obtain rfl:fuel=0:=by omega
  refine ⟨List.eq_nil_iff_forall_not_mem.2 fun i hi => ?_,?_⟩
  ·obtain ⟨h5,o',ho2,_⟩:=mem_ready.1 hi
   have hlt:i < ops.size:=(Array.getElem?_eq_some_iff.1 ho2).1
   have h6:=hz i hlt
   rw [Array.getD_eq_getD_getElem?,Array.getElem?_eq_getElem (by simp [hs]; exact hlt)] at h5 h6
   simp at h5 h6
   rw [h6] at h5; cases h5
  ·exact ⟨_,_,g',hr',c8 y⟩
 ·have:∀ n,n≤ops.size→cnt (fun i=>(Array.replicate ops.size false).getD i false) n=n:=by
   intro n
   induction n with
   | zero=>intro _; rfl
   | succ n ih =>
    intro hn
    have:(Array.replicate ops.size false).getD n false=false:=Zs _ _
    simp only [cnt,ih (by omega),this]; rfl
  exact this _ (Nat.le_refl _)
 ·have:(Array.replicate ops.size false).getD j false=false:=Zs _ _
  rw [this] at hj; cases hj
 ·have hz:∀ j,(fun i=>(Array.replicate ops.size false).getD i false) j=false:=fun j=>Zs _ _
  rw [z3l hz,z3l hz]
  exact hr.grow (Kp.refl [] w).drew
end
def sw1 (a b i:Nat):Nat:=cond (Nat.beq i a) b (cond (Nat.beq i b) a i)
theorem y6g (a b i:Nat):sw1 a b (sw1 a b i)=i:=by
 unfold sw1
 by_cases h1:i=a
 ·subst h1
  by_cases h2:b=i
  ·subst h2; simp
  ·simp [qu h2]
 ·by_cases h2:i=b
  ·subst h2; simp [qu h1]
  ·simp [qu h1,qu h2]
def swL:List (Nat×Nat)→Nat→Nat
 | [],i=>i
 | (a,b)::l,i=>swL l (sw1 a b i)
theorem y2d:∀ (l:List (Nat×Nat)) (i j:Nat),swL l i=swL l j→i=j
 | [],_,_,h=>h
 | (a,b)::l,i,j,h=>by
  have h1:=y2d l _ _ h
  rw [← y6g a b i,h1,y6g]
theorem x6z {X:Ctx} {σ:Nat→Nat} (hσ:∀ i j,σ i=σ j→i=j) {l:List (Nat×AObj)} (hc:∀ p,p∈l→clO p.2=true) (nd:(l.map (·.1)).Nodup) {g:Gh} {w:World} (hm:Mem X (ows (renL σ l)) g w) :
  ∃ g',Mem X (ows l) g' w∧Ext (Mof X g (ows (renL σ l))) (Mof X g' (ows l)) w w:=by
 let g':Gh:=⟨fun i=>g.bl (σ i),fun i n=>g.sv (σ i) n⟩
 have ob':∀ i o,obk g' i o=obk g (σ i) o:=fun i o=>ug rfl fun _=>rfl
 have hM1:∀ b,Mof X g' (ows l) b→Mof X g (ows (renL σ l)) b:=fun b hb=>by
  rcases hb with hb | ⟨i,o,h1,h2⟩
  ·exact .inl hb
  ·exact .inr ⟨σ i,o,(Za hσ nd).2 h1,by rw [← ob']; exact h2⟩
 have he:Ext (Mof X g (ows (renL σ l))) (Mof X g' (ows l)) w w:=⟨Nat.le_refl _,fun _ _ _ _=>rfl,fun b _ h=>hM1 b h⟩
 refine ⟨g',⟨hm.kp,hm.m0,fun i o h => ?_,fun i i' o o' b h1 h2 h3 h4 => ?_,fun i o b h1 h2 => ?_,fun i hi => ?_,fun i e size es h k hk => ?_⟩,he⟩
 ·exact (z0g (g:=g) (g':=g') (i:=σ i) (i':=i) (o:=o) (hc _ ((qg nd).1 h)) rfl (fun _=>rfl) (hm.ob (σ i) o ((Za hσ nd).2 h))).keep he (Gh.le_refl _) fun b _=>rfl
 ·rw [ob'] at h3 h4
  exact hσ _ _ (hm.sep _ _ o o' b ((Za hσ nd).2 h1) ((Za hσ nd).2 h2) h3 h4)
 ·rw [ob'] at h2
  exact hm.mine (σ i) o b ((Za hσ nd).2 h1) h2
 ·have hn:ows (renL σ l) (σ i)=none:=by
   rw [jp,z9h]
   intro h
   obtain ⟨j,h1,h2⟩:=List.mem_map.1 h
   have:=hσ _ _ h2
   subst this
   exact jp.1 hi h1
  exact hm.fresh (σ i) hn
 ·exact hm.top (σ i) e size es ((Za hσ nd).2 h) k hk
theorem x0g {ι κ:Type} {P:Program} {fn:Nat} {args:List V} {pre:List (Nat×AObj)} {res:ι→V} {post:ι→List (Nat×AObj)} (y:κ→ι) (σ:κ→Nat→Nat) (hσ:∀ k i j,σ k i=σ k j→i=j) (hc:∀ k p,p∈post (y k)→clO p.2=true) (nd:∀ k,((post (y k)).map (·.1)).Nodup)
  (hF:FnI P fn args pre (fun k=>res (y k)) (fun k=>renL (σ k) (post (y k)))):FnI P fn args pre res post:=by
 refine ⟨hF.1,fun X g w vs hw hm hl hvs=>(hF.2 X g w vs hw hm hl hvs).mono ?_⟩
 rintro e w' ⟨k,v,g',rfl,h1,h2⟩
 obtain ⟨g2,h3,h4⟩:=x6z (hσ k) (hc k) (nd k) h1
 exact ⟨y k,v,g2,rfl,h3,(res (y k)).keep h4 h2⟩
theorem Wm {ι:Type} {P:Program} {fn:Nat} {fc:Func} {c:Code} {args:List V} {pre:List (Nat×AObj)} {post:ι→List (Nat×AObj)} {res:ι→V} {N:Nat} {rs:List ResultVar} (hok:ki P fn=true) (hf:P.funcs[fn]?=some fc) (hb:fc.body=some c) (hnt:fc.ntmps=N) (hrs:fc.results.toList=rs) (hn:Nat.ble args.length N=true)
  (h:∀ (X:Ctx),X.N=N→AWP P X c (fun e f own=>(match e with | .ret=>True | .normal=>True | _=>False)∧∃ (y:ι) (τ:List (Nat×Nat)) (lf:List (Nat×Slot)),subF f lf∧lf.all (fun p=>clS p.2)=true∧subO own (renL (swL τ) (post y))∧(post y).all (fun p=>clO p.2)=true∧ndB ((post y).map (·.1))=true∧ResG P (frs lf) (ows (renL (swL τ) (post y))) rs (.dat (res y))) (fun t=>(args.map Slot.dat).getD t .any) (ows pre)) :
  FnI P fn args pre res post:=by
 refine x0g (κ:={k:ι×List (Nat×Nat) // (post k.1).all (fun p=>clO p.2)=true∧ndB ((post k.1).map (·.1))=true}) (fun k=>k.1.1) (fun k=>swL k.1.2) (fun k=>y2d _) (fun k=>List.all_eq_true.1 k.2.1) (fun k=>Zq k.2.2) (y09 hok hf hb hnt hrs hn fun X hX g a w hr=>wpIn_mono (h X hX g a w hr) ?_)
 rintro e a' w' ⟨f',own',g',hr',he,y,τ,lf,h1,h2,h3,h4,h5,h6⟩
 exact ⟨f',own',g',hr',he,⟨(y,τ),h4,h5⟩,lf,h1,h3,y8e h2 (fun p hp=>by
  obtain ⟨q,hq,rfl⟩:=List.mem_map.1 hp
  exact List.all_eq_true.1 h4 q hq),h6⟩
theorem yw {α:Type} {C:α→List V} {l:List α}:l.length=(List.map C l).length:=(List.length_map _).symm
theorem vh {b c:Bool} (h:b=c):zn b=zn c:=by rw [h]
theorem z0w {P:Program} {X:Ctx} {Q:Exit→(Nat→Slot)→Own→Prop} {f:Nat→Slot} {own:Own} {c:Code} (i j i2 i4 n:Nat) {an:Option Nat} {t e:TypeId} {size:Nat} {cs:List Slot} {es:List (List V)} {hv:Value}
  (hn:n=es.length) (hb:own i=some (some (.box an t cs))) (hj:cs[j]?=some (.dat (vval hv))) (ho:own i2=some (some (.rowA hv e size es))) (h4:own i4=none)
  (h:AWP P X c Q f (upl own [(i,some (some (.box an t (cs.set j (.row i4 n))))),(i2,some none),(i4,some (some (.row e size es)))])):AWP P X c Q f own:=by
 subst hn; exact w1x i j i2 i4 hb hj ho h4 h
def Fin (Q:(Nat→Slot)→Own→Prop) (f:Nat→Slot) (own:Own):Prop:=∀ (X:Ctx) (g:Gh) (a:Act) (w:World),Rel X f own g a w→∃ f' own' g',Rel X f' own' g' a w∧Q f' own'
theorem x07 {P:Program} {X:Ctx} {Q:Exit→(Nat→Slot)→Own→Prop} {f:Nat→Slot} {own:Own} {c:Code} (h:AWP P X c (fun e f own=>match e with | .normal=>Fin (Q .normal) f own | e=>Q e f own) f own):AWP P X c Q f own:=by
 intro g a w hr
 refine wpIn_mono (h g a w hr) ?_
 rintro e a' w' ⟨f',own',g',h1,h2⟩
 cases e with
 | normal=>exact h2 X g' a' w' h1
 | ret=>exact ⟨f',own',g',h1,h2⟩
 | exit _=>exact ⟨f',own',g',h1,h2⟩
 | goto _=>exact ⟨f',own',g',h1,h2⟩
 | panic _=>exact ⟨f',own',g',h1,h2⟩
 | outgrown=>exact ⟨f',own',g',h1,h2⟩
theorem x0h {Q:(Nat→Slot)→Own→Prop} {f:Nat→Slot} {own:Own} (h:Q f own):Fin Q f own:=fun X g a w hr=>⟨f,own,g,hr,h⟩
theorem w0v {Q:(Nat→Slot)→Own→Prop} {f:Nat→Slot} {own:Own} (i j id i4:Nat) {an:Option Nat} {t e:TypeId} {size n:Nat} {cs:List Slot} {es:List (List V)}
  (hb:own i=some (some (.box an t cs))) (hj:cs[j]?=some (.row id n)) (ho:own id=some (some (.row e size es))) (hn:n=es.length) (h4:own i4=none)
  (h:∀ hv',Fin Q f (upl own [(i,some (some (.box an t (cs.set j (.dat (vval hv')))))),(id,some none),(i4,some (some (.rowA hv' e size es)))])):Fin Q f own:=fun X g a w hr=>by
 obtain ⟨hv,g',h1⟩:=y7r hr i j id i4 hb hj ho hn h4
 exact h hv X g' a w h1
section
variable {P:Program} {X:Ctx} {Q:Exit→(Nat→Slot)→Own→Prop} {f:Nat→Slot} {own:Own} {c:Code}
theorem z0i {g:Gh} {a:Act} {w:World} (hr:Rel X f own g a w) (t:Nat) (s':Slot) (hs:RepS g w (Mof X g own) s' (a.tmps.getD t undef)):Rel X (updS f (some t) s') own g a w:=by
 refine ⟨hr.kp,hr.m0,hr.n,hr.df,fun k => ?_,hr.ob,hr.sep,hr.mine,hr.fresh,hr.top⟩
 by_cases hk:k=t
 ·subst hk
  have e1:Nat.beq k k=true:=by simp
  simp only [updS,e1,cond_true]
  exact hs
 ·have e1:Nat.beq k t=false:=qu hk
  simp only [updS,e1,cond_false]
  exact hr.fr k
theorem y26 {g:Gh} {a:Act} {w:World} (hr:Rel X f own g a w) (id i4:Nat) {o o':AObj} {n:Nat} {v:Value} (ho:own id=some (some o)) (h4:own i4=none)
  (hbk:∀ g':Gh,g'.sv i4 n=some v→obk g' i4 o'=obk g id o) (hrep:∀ (g':Gh) (M':Blks),g.le g'→g'.sv i4 n=some v→Ext (Mof X g own) M' w w→RepO g' w M' i4 o') (hlen:∀ e size es,o' = .row e size es→n=es.length) :
  ∃ g',g'.sv i4 n=some v∧g'.bl=g.bl∧Rel X f (upl own [(id,some none),(i4,some (some o'))]) g' a w:=by
 have n2:i4≠id:=by rintro rfl; rw [ho] at h4; cases h4
 let l:List (Nat×Option (Option AObj)):=[(id,some none),(i4,some (some o'))]
 let g':Gh:=⟨g.bl,fun i k=>if i=i4∧k=n then some v else g.sv i k⟩
 have hsv:g'.sv i4 n=some v:=if_pos ⟨rfl,rfl⟩
 have hle:g.le g':=⟨fun _ _ h=>h,fun i k u hu=>by
  show (if i=i4∧k=n then _ else g.sv i k)=some u
  rw [if_neg]
  ·exact hu
  ·rintro ⟨rfl,rfl⟩
   rw [(hr.fresh i h4).2] at hu
   cases hu⟩
 have key:∀ k q,upl own l k=some (some q)→k≠id∧((k=i4∧q=o')∨(k≠i4∧own k=some (some q))):=fun k q hk=>by
  rcases Zh own l k with ⟨p,h1,h2,h5⟩ | ⟨h1,h2⟩
  ·rw [h5] at hk
   simp [l] at h1
   rcases h1 with rfl | rfl
   ·cases hk
   ·cases hk; exact ⟨fun h=>n2 (h2.trans h),.inl ⟨h2.symm,rfl⟩⟩
  ·rw [h2] at hk
   exact ⟨fun h=>h1 _ (.head _) h.symm,.inr ⟨fun h=>h1 _ (.tail _ (.head _)) h.symm,hk⟩⟩
 refine ⟨g',hsv,rfl,Rel.same (fun k=>if k=i4 then id else k) hr hle (fun k q b hk hb' => ?_) (fun k m q q' hk hm hkm => ?_) (fun k q hk he => ?_) (fun k hk => ?_) (fun k e' s' es' hk m hm => ?_)⟩
 ·obtain ⟨h1,⟨rfl,rfl⟩ | ⟨h5,h6⟩⟩:=key k q hk
  ·rw [if_pos rfl]; exact ⟨_,ho,by rw [← hbk g' hsv]; exact hb'⟩
  ·rw [if_neg h5]; exact ⟨q,h6,by rw [← (hr.ob k q h6).obk_eq hle]; exact hb'⟩
 ·have h1:=(key k q hk).1
  have h2:=(key m q' hm).1
  by_cases e1:k=i4
  ·by_cases e2:m=i4
   ·omega
   ·rw [if_pos e1,if_neg e2] at hkm; exact absurd hkm.symm h2
  ·by_cases e2:m=i4
   ·rw [if_neg e1,if_pos e2] at hkm; exact absurd hkm h1
   ·rw [if_neg e1,if_neg e2] at hkm; exact hkm
 ·obtain ⟨h1,⟨rfl,rfl⟩ | ⟨h5,h6⟩⟩:=key k q hk
  ·exact hrep g' _ hle hsv he
  ·exact (hr.ob k q h6).keep he hle (fun _ _=>rfl)
 ·rcases Zh own l k with ⟨p,h1,h2,h5⟩ | ⟨h1,h2⟩
  ·rw [h5] at hk
   simp [l] at h1
   rcases h1 with rfl | rfl <;> cases hk
  ·rw [h2] at hk
   have h6:=hr.fresh k hk
   have h7:k≠i4:=fun h=>h1 _ (.tail _ (.head _)) h.symm
   exact ⟨h6.1,fun m=>(if_neg fun h=>h7 h.1).trans (h6.2 m)⟩
 ·obtain ⟨h1,⟨rfl,h6⟩ | ⟨h5,h6⟩⟩:=key k _ hk
  ·have:=hlen _ _ _ h6.symm
   exact (if_neg fun h=>by omega).trans ((hr.fresh k h4).2 m)
  ·exact (if_neg fun h=>h5 h.1).trans (hr.top k e' s' es' h6 m hm)
theorem w1w (t i2 i4 n:Nat) {e:TypeId} {size:Nat} {es:List (List V)} {hv:Value} (hn:n=es.length) (hf:f t = .dat (vval hv)) (ho:own i2=some (some (.rowA hv e size es))) (h4:own i4=none)
  (h:AWP P X c Q (updS f (some t) (.row i4 n)) (upl own [(i2,some none),(i4,some (some (.row e size es)))])):AWP P X c Q f own:=by
 intro g a w hr
 subst hn
 obtain ⟨xs,q1,q2,q3,q4,q5⟩:=hr.ob i2 _ ho
 obtain ⟨g',h1,_,h2⟩:=y26 hr i2 i4 (o' := .row e size es) (n:=es.length) (v:=hv) ho h4 (fun g' hg=>by simp only [obk,hg,Option.bind_some]) (fun g' M' hle hg he=>⟨hv,xs,hg,q2,q3,q4,fun k c el u hk hc=>let ⟨x,r1,r2,r3⟩:=q5 k c el u hk hc; ⟨x,r1,u.keep he r2,r3⟩⟩) (fun e' s' es' h=>by cases h; rfl)
 refine h g' a w (z0i h2 t _ ?_)
 have h3:=hr.fr t
 rw [hf] at h3
 rw [show a.tmps.getD t undef=hv from h3]
 exact h1
theorem w12 (t id i4:Nat) {e:TypeId} {size n:Nat} {es:List (List V)} (hf:f t = .row id n) (ho:own id=some (some (.row e size es))) (hn:n=es.length) (h4:own i4=none)
  (h:∀ hv,AWP P X c Q (updS f (some t) (.dat (vval hv))) (upl own [(id,some none),(i4,some (some (.rowA hv e size es)))])):AWP P X c Q f own:=by
 intro g a w hr
 subst hn
 obtain ⟨v,xs,q1,q2,q3,q4,q5⟩:=hr.ob id _ ho
 obtain ⟨g',h1,_,h2⟩:=y26 hr id i4 (o' := .rowA v e size es) (n:=es.length) (v:=v) ho h4 (fun g' hg=>by simp only [obk,q1,Option.bind_some]) (fun g' M' hle hg he=>⟨xs,hg,q2,q3,q4,fun k c el u hk hc=>let ⟨x,r1,r2,r3⟩:=q5 k c el u hk hc; ⟨x,r1,u.keep he r2,r3⟩⟩) (fun e' s' es' h=>by cases h)
 refine h v g' a w (z0i h2 t _ ?_)
 have h3:=hr.fr t
 rw [hf] at h3
 exact Option.some.inj (h3.symm.trans q1)
theorem w1y (t id n:Nat) {e:TypeId} {size:Nat} {es:List (List V)} {hv:Value} (hn:n=es.length) (hf:f t = .dat (vval hv)) (ho:own id=some (some (.rowA hv e size es))) (h:AWP P X c Q (updS f (some t) (.row id n)) own):AWP P X c Q f own:=by
 intro g a w hr
 subst hn
 obtain ⟨xs,q1,_⟩:=hr.ob id _ ho
 have h3:=hr.fr t
 rw [hf] at h3
 exact h g a w (z0i hr t _ (by rw [show a.tmps.getD t undef=hv from h3]; exact q1))
theorem x08 (t id:Nat) {e:TypeId} {size:Nat} {es:List (List V)} {hv:Value} (hf:f t = .dat (vval hv)) (ho:own id=some (some (.rowA hv e size es))) (h:AWP P X c Q (updS f (some t) (.dat (vhd hv))) own):AWP P X c Q f own:=by
 intro g a w hr
 obtain ⟨xs,q1,q2,_⟩:=hr.ob id _ ho
 have h3:=hr.fr t
 rw [hf] at h3
 have h4:a.tmps.getD t undef=hv:=h3
 refine h g a w (z0i hr t _ ⟨h4,?_⟩)
 rw [h4]
 rcases q2.2 with ⟨h5,_⟩ | ⟨_,_,_,h5,_⟩ <;> rw [h5] <;> rfl
theorem y90 {hv:Value} (g:Gh) (w:World) (M:Blks) (v:Value) (h:RepS g w M (.dat (vhd hv)) v):RepS g w M (.dat (vval hv)) v:=h.1
theorem y27 {g:Gh} {a:Act} {w:World} (hr:Rel X f own g a w) (i j:Nat) {t:TypeId} {cs:List Slot} {an:Option Nat} {s s':Slot} (ho:own i=some (some (.box an t cs))) (hj:cs[j]?=some s) (hs:∀ (M:Blks) (v:Value),RepS g w M s v→RepS g w M s' v):Rel X f (upl own [(i,some (some (.box an t (cs.set j s'))))]) g a w:=by
 obtain ⟨q,l,q1,q0,q2,q3,q4⟩:=hr.ob i _ ho
 refine hr.re1 i ho rfl (fun M' he=>⟨q,l,q1,q0,q2,by rw [List.length_set]; exact q3,fun k s0 hk => ?_⟩) (fun e size es h=>by cases h)
 rw [List.getElem?_set] at hk
 split at hk
 ·rename_i hjk
  subst hjk
  split at hk
  ·cases hk
   obtain ⟨x,x1,x2,x3⟩:=q4 j s hj
   exact ⟨x,x1,hs _ x (x2.keep he (Gh.le_refl g)),x3⟩
  ·cases hk
 ·obtain ⟨x,x1,x2,x3⟩:=q4 k s0 hk
  exact ⟨x,x1,x2.keep he (Gh.le_refl g),x3⟩
theorem Zg (i j id n:Nat) {t e:TypeId} {size:Nat} {cs:List Slot} {an:Option Nat} {es:List (List V)} {hv:Value} (hn:n=es.length) (hb:own i=some (some (.box an t cs))) (hj:cs[j]?=some (.dat (vval hv))) (ho:own id=some (some (.rowA hv e size es)))
  (h:AWP P X c Q f (upl own [(i,some (some (.box an t (cs.set j (.row id n)))))])):AWP P X c Q f own:=by
 intro g a w hr
 subst hn
 obtain ⟨xs,q1,_⟩:=hr.ob id _ ho
 exact h g a w (y27 hr i j hb hj fun M v hv=>by rw [show v=_ from hv]; exact q1)
theorem Zw (i j id n:Nat) {t e:TypeId} {size:Nat} {cs:List Slot} {an:Option Nat} {es:List (List V)} {hv:Value} (hn:n=es.length) (hb:own i=some (some (.box an t cs))) (hj:cs[j]?=some (.row id n)) (ho:own id=some (some (.rowA hv e size es)))
  (h:AWP P X c Q f (upl own [(i,some (some (.box an t (cs.set j (.dat (vval hv))))))])):AWP P X c Q f own:=by
 intro g a w hr
 subst hn
 obtain ⟨xs,q1,_⟩:=hr.ob id _ ho
 exact h g a w (y27 hr i j hb hj fun M v hv=>Option.some.inj ((show _=some v from hv).symm.trans q1))
end
section
variable {P:Program} {f:Nat→Slot} {dst:Option Tmp} {op:Op} {ty:TypeId} {pos:String} {af:Array Edge} {s:Slot} {ops:Array Oper} {os:List Oper} {own:Own} {lg:List (List Nat×List Nat)} {K:(Nat→Slot)→Own→List (List Nat×List Nat)→Prop}
def rdL (rd:List (Nat×AObj)):List (Nat×Option (Option AObj)):=rd.map fun p=>(p.1,some (some p.2))
theorem y7u (rd:List (Nat×AObj)):keys (rdL rd)=rd.map (·.1):=by unfold keys rdL; rw [List.map_map]; rfl
theorem z5x (rd:List (Nat×AObj)) (hst:Stp P ⟨dst,op,ty,pos,af,none⟩ f ⟨false,rdL rd,[],s⟩) (hrd:subO own rd) (h:seqA P ops os (updS f dst s) own ((rd.map (·.1),[])::lg) K):seqA P ops (⟨dst,op,ty,pos,af,none⟩::os) f own lg K:=
 ⟨⟨false,rdL rd,[],s⟩,⟨rfl,fun _=>⟨hst,fun q hq=>by
  obtain ⟨p,hp,rfl⟩:=List.mem_map.1 hq
  exact ua.1 hrd p hp⟩,fun h=>(by cases h),fun k hk=>(by cases hk)⟩,by
  show seqA P ops os _ _ ((keys (rdL rd),keys [])::lg) K
  rw [y7u]; exact h⟩
theorem y22 {j d:Nat} {want b:Bool} (rd:List (Nat×AObj)) (h1:(ops[j]?).bind (·.dst)=some d) (h2:f d = .dat (zn b)) (h3:(b != want)=false) (hst:Stp P ⟨dst,op,ty,pos,af,some (j,want)⟩ f ⟨false,rdL rd,[],s⟩) (hrd:subO own rd) (h:seqA P ops os (updS f dst s) own ((rd.map (·.1),[])::lg) K):seqA P ops (⟨dst,op,ty,pos,af,some (j,want)⟩::os) f own lg K:=
 ⟨⟨false,rdL rd,[],s⟩,⟨⟨d,.bool b,h1,h2,h3.symm⟩,fun _=>⟨hst,fun q hq=>by
  obtain ⟨p,hp,rfl⟩:=List.mem_map.1 hq
  exact ua.1 hrd p hp⟩,fun h=>(by cases h),fun k hk=>(by cases hk)⟩,by
  show seqA P ops os _ _ ((keys (rdL rd),keys [])::lg) K
  rw [y7u]; exact h⟩
theorem z27 {gd:Option (Nat×Bool)} {rd:List (Nat×AObj)} (id n:Nat) {e:TypeId} {size:Nat} {es:List (List V)} {hv:Value} (hn:n=es.length) (hm:(id,AObj.rowA hv e size es)∈rd) (h:Stp P ⟨dst,op,ty,pos,af,gd⟩ f ⟨false,rdL rd,[],.dat (vhd hv)⟩):Stp P ⟨dst,op,ty,pos,af,gd⟩ f ⟨false,rdL rd,[],.row id n⟩:=by
 intro X f' own g a w Q hr hd hx hrd K hK
 have ho:own id=some (some (.rowA hv e size es)):=hrd (id,some (some (.rowA hv e size es))) (List.mem_map.2 ⟨_,hm,rfl⟩)
 refine h X f' own g a w Q hr hd hx hrd K fun g' v w' hr'=>hK g' v w' ?_
 have hr2:Rel X (updS f' dst (.dat (vhd hv))) own g' (a.put dst v) w':=hr'
 show Rel X (updS f' dst (.row id n)) own g' (a.put dst v) w'
 cases dst with
 | none=>exact hr2
 | some d =>
  obtain ⟨xs,q1,_⟩:=hr2.ob id _ ho
  have h3:=hr2.fr d
  have e1:Nat.beq d d=true:=by simp
  simp only [updS,e1,cond_true] at h3
  have h4:((a.put (some d) v).tmps).getD d undef=hv:=h3.1
  have h5:=z0i hr2 d (.row id n) (by rw [h4,hn]; exact q1)
  refine ⟨h5.kp,h5.m0,h5.n,h5.df,fun t => ?_,h5.ob,h5.sep,h5.mine,h5.fresh,h5.top⟩
  have h6:=h5.fr t
  simp only [updS] at h6 ⊢
  cases hb:Nat.beq t d with
  | true=>simp only [hb,cond_true] at h6 ⊢; exact h6
  | false=>simp only [hb,cond_false] at h6 ⊢; exact h6
theorem x6n {o:Oper} (x id i4:Nat) {e:TypeId} {size n:Nat} {es:List (List V)} {rd wr:Value→List (Nat×Option (Option AObj))} {s:Value→Slot} (hfx:f x = .row id n) (ho:own id=some (some (.row e size es))) (hn:n=es.length) (h4:own i4=none)
  (hst:∀ hv,Stp P o (updS f (some x) (.dat (vhd hv))) ⟨false,rd hv,wr hv,s hv⟩) (hrd:∀ hv q,q∈rd hv→upl own [(id,some none),(i4,some (some (.rowA hv e size es)))] q.1=q.2) :
  OpI P o f own (fun hv=>updS (updS f (some x) (.dat (vhd hv))) o.dst (s hv)) (fun hv=>upl (upl own [(id,some none),(i4,some (some (.rowA hv e size es)))]) (wr hv)):=by
 intro X g a w Q K hr hd hK
 subst hn
 obtain ⟨v,xs,q1,q2,q3,q4,q5⟩:=hr.ob id _ ho
 obtain ⟨g',h1,_,h2⟩:=y26 hr id i4 (o' := .rowA v e size es) (n:=es.length) (v:=v) ho h4 (fun g' hg=>by simp only [obk,q1,Option.bind_some]) (fun g' M' hle hg he=>⟨xs,hg,q2,q3,q4,fun k c el u hk hc=>let ⟨x,r1,r2,r3⟩:=q5 k c el u hk hc; ⟨x,r1,u.keep he r2,r3⟩⟩) (fun e' s' es' h=>by cases h)
 have h3:=hr.fr x
 rw [hfx] at h3
 have h5:a.tmps.getD x undef=v:=Option.some.inj (h3.symm.trans q1)
 have hr2:=z0i h2 x (.dat (vhd v)) ⟨h5,by
  rw [h5]
  rcases q2.2 with ⟨h6,_⟩ | ⟨_,_,_,h6,_⟩ <;> rw [h6] <;> rfl⟩
 exact hst v X _ _ g' a w Q hr2 hd (fun _ _=>rfl) (hrd v) K fun g'' u w' hr'=>hK v g'' u w' hr'
end
theorem x3s {P:Program} {f:Nat→Slot} {dst:Option Tmp} {ty:TypeId} {pos:String} {af:Array Edge} {gd:Option (Nat×Bool)} {α:Type} {C:α→List V} {xs ys:List α} (i3 i8 tx:Nat) {t e:TypeId} {size bytes:Nat} {y:Operand} {hv:Value} (hE:Elem P t e size bytes) (hC:∀ y,(C y).length=size) (hx:f tx = .dat (vval hv)) (hy:evS f y = .dat (vlst (ys.map C))) (hyx:y ≠ .tmp tx) (hdx:dst≠some tx) (hlen:ys≠[]∧xs.length+ys.length≤1000000000) (hby:Nat.ble bytes 140737=true) (hd:Nat.beq i8 i3=false) :
  Stp P ⟨dst,.call { callee := .builtin .append,args := #[.tmp tx,y],argTypes := #[t,t] },ty,pos,af,gd⟩ f ⟨false,[(i3,some (some (.rowA hv e size (xs.map C)))),(i8,none)],[(i8,some (some (.row e size ((xs++ys).map C)))),(i3,some none),(i8,some (some (.row e size (xs.map C))))],.row i8 (xs++ys).length⟩:=by
 have h:=x3t (P:=P) (f:=f) (dst:=dst) (ty:=ty) (pos:=pos) (af:=af) (gd:=gd) i3 i8 tx (es:=xs.map C) (news:=ys.map C) hE hx hy hyx hdx (by simpa using hlen.1) (fun el hel=>by
  obtain ⟨z,_,rfl⟩:=List.mem_map.1 hel
  exact hC z) (by rw [List.length_map,List.length_map]; exact hlen.2) hby hd
 rw [← List.map_append,List.length_map] at h
 exact h
theorem z0b {P:Program} {o:Oper} {f:Nat→Slot} {rd rd':List (Nat×Option (Option AObj))} {s:Slot} (hs:∀ q,q∈rd→q∈rd') (h:Stp P o f ⟨false,rd,[],s⟩):Stp P o f ⟨false,rd',[],s⟩:=
 fun X f' own g a w Q hr hd hx hrd K hK=>h X f' own g a w Q hr hd hx (fun q hq=>hrd q (hs q hq)) K hK
theorem rd1 {x:Nat×Option (Option AObj)} {l:List (Nat×Option (Option AObj))}:∀ q,q∈[x]→q∈x::l:=fun q hq=>by rw [List.mem_singleton.1 hq]; exact .head _
theorem w0u {Q:(Nat→Slot)→Own→Prop} {f:Nat→Slot} {own:Own} (i j id n:Nat) {t e:TypeId} {size:Nat} {cs:List Slot} {an:Option Nat} {es:List (List V)} {hv:Value} (hn:n=es.length) (hb:own i=some (some (.box an t cs))) (hj:cs[j]?=some (.row id n)) (ho:own id=some (some (.rowA hv e size es)))
  (h:Fin Q f (upl own [(i,some (some (.box an t (cs.set j (.dat (vval hv))))))])):Fin Q f own:=fun X g a w hr=>by
 subst hn
 obtain ⟨xs,q1,_⟩:=hr.ob id _ ho
 exact h X g a w (y27 hr i j hb hj fun M v hv=>Option.some.inj ((show _=some v from hv).symm.trans q1))
theorem set3 {α:Type} {l:List α} {k:Nat} {a b c:α}:((l.set k a).set k b).set k c=l.set k c:=by rw [List.set_set,List.set_set]
end Go.Proofs.YtgdijjmdfcgifaaGreat
