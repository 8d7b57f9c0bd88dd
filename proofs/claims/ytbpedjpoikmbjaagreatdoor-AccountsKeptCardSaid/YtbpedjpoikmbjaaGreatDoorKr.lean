import Derived.Test.YtbpedjpoikmbjaaGreatDoorRng
import Derived.Test.YtbpedjpoikmbjaaGreatDoorBk
namespace Go.Proofs.YtbpedjpoikmbjaaGreatDoor
open Go.RowKit Go.ChangeMaps Go.MapKept
set_option linter.unusedVariables false
def isIt:Obj->Bool
 | .mapIter _ _ _ _=>true
 | _=>false
theorem y9r {o:Obj} (h:isIt o=true):Zz o=false:=by cases o <;> first|rfl|cases h
def y53 {κ τ:Type} (P:Program) (gf:Nat) (T:MT κ τ):Prop:=∀ (b:Nat) (es:Array MapEntry) (cl:Nat) (L:List (κ×τ)) (M:Blks) (l:Nat) (cap:Value) (J:List (κ×τ)->World->Prop) (W0:World),EnG T es cl L ->
 (∀ q W W',J q W->Kp [] W W'->J q W') ->
 (∀ q W W' (r:Nat) (o:Obj),J q W->W.heap[r]?=some o->isIt o=true->W0.heap.size<=r->Kp [r] W W'->J q W') ->
 (∀ q W,J q W->Mlt W M/\(qn [[vmpX b es cl]] 0 0).p W M cap) ->
 (∀ q j p W,q[j]?=some p->J q W->YieldAt Fence.wide 0 P l #[T.ck p.1] W λe W'=>e = .returned (.bool true)/\J (q.eraseIdx j) W'/\∀ (r:Nat) (o:Obj),W.heap[r]?=some o->isIt o=true->W'.heap[r]?=some o) ->
 J L W0->CallsIn Fence.wide 0 P gf #[.func (.yield l) #[] #[],cap] W0 λe W'=>(∃ v,e = .returned v)/\J [] W'
def MpK {κ τ:Type} (T:MT κ τ) (u:V) (ks:List κ):Prop:=∀ w M v,u.p w M v->∃ b es cl L,(vmpX b es cl).p w M v/\EnG T es cl L/\L.map (·.1)=ks

def RetK (Rs:(Nat->Slot)->Own->Prop) (f:Nat->Slot) (own:Own):Prop:=∃ lf lo,subF f lf/\subO own lo/\okL lf lo=true/\lo.all (λp=>boxB p.2)=true/\Rs (frs lf) (ows lo)
def FinK (P:Program) (X:Ctx) (Rs:(Nat->Slot)->Own->Prop) (e:Exit) (a':Act) (w':World):Prop:=(e = .normal∨e = .ret)/\∃ lf lo g',lo.all (λp=>boxB p.2)=true/\Rs (frs lf) (ows lo) /\
 (Rel X (frs lf) (ows lo) g' a' w'∨∃ D,a'.defers=Yt D::X.D/\X.w0.heap.size<=D/\w'.heap[D]?=some (.deferred (some []))/\Rel X (frs lf) (ows lo) g' { a' with defers:=X.D } w')
def AWPK (P:Program) (X:Ctx) (Rs:(Nat->Slot)->Own->Prop) (c:Code) (f:Nat->Slot) (own:Own):Prop:=∀ (g:Gh) (a:Act) (w:World),Rel X f own g a w->c.wpIn (FR none) 0 P (FinK P X Rs) a w
section
variable {P:Program} {X:Ctx} {f:Nat->Slot} {own:Own} {Rs:(Nat->Slot)->Own->Prop}
theorem x1a {x y:Code} (hR:X.R=none) (h:AWP P X x (λe f own=>match e with|.normal=>AWPK P X Rs y f own|_=>False) f own):AWPK P X Rs (.seq x y) f own:=by
 intro g a w hr;have h0:=h g a w hr;rw [hR] at h0;refine wpIn_seq (wpIn_mono h0 ?_);rintro e a' w' ⟨f',own',g',h1,h2⟩
 cases e with
 | normal=>exact h2 g' a' w' h1
 | ret=>exact h2.elim
 | exit id=>exact h2.elim
 | goto l=>exact h2.elim
 | panic ch=>exact h2.elim
 | outgrown=>exact h2.elim
def y51 (P:Program) (X:Ctx) (Rs:(Nat->Slot)->Own->Prop) (b:Nat) (gop:Operand) (ps:Array Tmp) (asg bdy y:Code) (f:Nat->Slot) (own:Own):Prop:=∀ (g:Gh) (a:Act) (w:World),Rel X f own g a w ->
 (Code.block b (.rangeFunc gop ps asg bdy)).wpIn (FR none) 0 P (Exit.then (y.wpIn (FR none) 0 P (FinK P X Rs)) (FinK P X Rs)) a w
theorem x1b {x y asg bdy:Code} {b:Nat} {gop:Operand} {ps:Array Tmp} (hR:X.R=none) (h:AWP P X x (λe f own=>e = .normal/\y51 P X Rs b gop ps asg bdy y f own) f own):AWPK P X Rs (.seq (.seq x (.block b (.rangeFunc gop ps asg bdy))) y) f own:=by
 intro g a w hr;have h0:=h g a w hr;rw [hR] at h0;refine wpIn_seq (wpIn_seq (wpIn_mono h0 ?_));rintro e a' w' ⟨f',own',g',h1,rfl,h2⟩;exact h2 g' a' w' h1
theorem y71 (i j id:Nat) (e:TypeId) (size:Nat) {ps:Array Tmp} {b:Nat} {gop:Operand} {asg bdy y:Code} {an:Option Nat} {t:TypeId} {cs:List Slot} (hb:own i=some (some (.box an t cs))) (hj:cs[j]?=some (.dat vnil)) (ho:own id=none) (hs:Nat.blt 0 size=true)
  (h:y51 P X Rs b gop ps asg bdy y (f) (upl (upl own [(id,some (some (.row e size [])))]) [(i,some (some (.box an t (cs.set j (.row id 0)))))])):y51 P X Rs b gop ps asg bdy y f own:=by
 intro g a w hr;obtain⟨g',h2⟩:=x4i i j id e size hb hj ho hs hr;exact h g' a w h2
end
def FnK {ι:Type} (P:Program) (fn:Nat) (args:List V) (e:TypeId) (size:Nat) (es:ι->List (List V)):Prop:=
 uv P fn=true/\∀ (M:Blks) (w:World) (vs:Array Value),Mlt w M->Ts w M args vs.toList->Calls P fn vs w λex w'=>∃ i v,ex = .returned v/\Kp [] w w'/\x1x w' (λx=>M x∨v.ownBlock=some x) w.heap.size e size v (es i)
def RsK {ι:Type} (e:TypeId) (size:Nat) (es:ι->List (List V)) (t:Nat) (f:Nat->Slot) (own:Own):Prop:=∃ i id,f t = .row id (es i).length/\own id=some (some (.row e size (es i)))
theorem z7i {ι:Type} {P:Program} {fn:Nat} {fc:Func} {c:Code} {args:List V} {N t:Nat} {e:TypeId} {size:Nat} {es:ι->List (List V)} (hok:uv P fn=true) (hf:P.funcs[fn]?=some fc) (hb:fc.body=some c) (hnt:fc.ntmps=N) (hrs:fc.results.toList=[.tmp t]) (hn:Nat.ble args.length N=true)
  (h:∀ X:Ctx,X.N=N->X.R=none->AWPK P X (RsK e size es t) c (λt=>(args.map Slot.dat).getD t .any) (λ_=>none)):FnK P fn args e size es:=by
 subst hnt;have hn:=Nat.le_of_ble_eq_true hn;refine⟨hok,λM w vs hM hvs=>?_⟩;have hvl:vs.size=args.length:=by simpa using hvs.1
 refine (callsIn_wide (n:=0)).1 (callsIn_of_wp_marks hf hb trivial (wpIn_mono (h ⟨M,w,[],fc.ntmps,none,[]⟩ rfl rfl ⟨λ_=>none,λ_ _=>none⟩ _ w ?_) ?_) rfl)
 ·refine⟨Kp.refl _ _,⟨λb hb=>⟨hM.1 b hb,by simp⟩,hM.2.1,λb hb=>⟨hM.2.2 b hb,by simp⟩⟩,by simp;omega,rfl,λt=>?_,λid o ho=>(by cases ho),λid _ o _ b ho=>(by cases ho),λid o b ho=>(by cases ho),λid _=>⟨rfl,λ_=>rfl⟩,λid e size es h=>(by cases h)⟩
  cases hs:args[t]? with
  | none =>
   have:(args.map Slot.dat).getD t .any = .any:=by rw [List.getD_eq_getElem?_getD,List.getElem?_map,hs];rfl
   rw [this];trivial
  | some u =>
   have e1:(args.map Slot.dat).getD t .any = .dat u:=by rw [List.getD_eq_getElem?_getD,List.getElem?_map,hs];rfl
   rw [e1];obtain⟨x,hx,hp⟩:=hvs.2 t u hs;have hx':vs[t]?=some x:=by simpa using hx
   have hlt:t < vs.size:=(Array.getElem?_eq_some_iff.1 hx').1;show u.p w _ _;rw [Array.getD_eq_getD_getElem?,Array.getElem?_append_left hlt,hx']
   exact u.keep (M:=M) ⟨Nat.le_refl _,λ_ _ _ _=>rfl,λb _ hb=>by
    rcases hb with hb|⟨id,o,ho,_⟩
    ·exact hb
    ·cases ho⟩ hp
 ·have done:∀ {lf lo g' a' w'},RsK e size es t (frs lf) (ows lo)->Rel ⟨M,w,[],fc.ntmps,none,[]⟩ (frs lf) (ows lo) g' a' w'->∃ v,(results fc a'.tmps).run P w' = .ok v w'/\∃ i v_1,Ending.returned v = .returned v_1/\Kp [] w w'/\x1x w' (λx=>M x∨v_1.ownBlock=some x) w.heap.size e size v_1 (es i):=by
   rintro lf lo g' a' w' ⟨i,id,hs1,hs2⟩ hr;have h1:=hr.fr t;rw [hs1] at h1;obtain⟨v,xs,q1,q2,q3,q4,q5⟩:=hr.ob id _ hs2;have h2:g'.sv id (es i).length=some (a'.tmps.getD t undef):=h1;rw [q1] at h2;cases h2;have hob:∀ x,(a'.tmps.getD t undef).ownBlock=some x->obk g' id (.row e size (es i))=some x:=λx hx=>by simp only [obk,q1,Option.bind_some];exact hx
   have hm:(fc.results.mapM (resF a'.tmps)).run P w' = .ok #[a'.tmps.getD t undef] w':=by
    rw [Array.mapM_eq_mapM_toList,hrs];simp [resF]
   rw [z84];refine⟨a'.tmps.getD t undef,by simp [hm],i,_,rfl,hr.kp,xs,q2,λx hx=>?_,q3,q4,λk c el u hk hc=>?_⟩
   ·rcases hr.mine id _ x hs2 (hob x hx) with h3|h3
    ·cases h3
    ·exact h3
   ·obtain⟨y,y1,y2,y3⟩:=q5 k c el u hk hc;refine⟨y,y1,u.keep ⟨Nat.le_refl _,λ_ _ _ _=>rfl,λx _ hx=>?_⟩ y2,y3⟩;rcases hx with hx|hx
    ·exact .inl hx
    ·exact .inr ⟨id,_,hs2,hob x hx⟩
  rintro ee a' w' ⟨he,lf,lo,g',hbx,hres,hcase⟩
  have hL:LeavesInM Fence.wide 0 P fc a'.tmps (λex w'=>∃ i v,ex = .returned v/\Kp [] w w'/\x1x w' (λx=>M x∨v.ownBlock=some x) w.heap.size e size v (es i)) a'.defers .returning w':=by
   rcases hcase with hr|⟨D,hD,hD1,hD2,hr⟩
   ·have:a'.defers=[]:=hr.df;rw [this];exact done hres hr
   ·rw [hD];refine⟨by simp,.inl ⟨D,_,rfl,run_takeDeferred hD2,?_⟩⟩;have hr2:=hr.putCtl hbx (.deferred none) hD2 rfl hD1;exact done (a':={ a' with defers:=[] }) hres hr2
  rcases he with rfl|rfl
  ·exact hL
  ·exact hL

def recK (fn:FuncId) (tmps:Array Value) (p0:Tmp) (asg bdy:Code) (D:Nat) (st:LoopState) (pe:Option Code):Loop:={ state:=st,pending:=pe,fn,tmps,params:=#[p0],assign:=asg,body:=bdy,defers:=D }
def JK {α σ:Type} (X:Ctx) (lf:List (Nat×Slot)) (A:Nat->Nat) (g:Gh) (bx:σ->Bx) (s0:σ) (a:Act) (w:World) (Iv:List α->σ->Prop) (rec:LoopState->Option Code->Loop) (q:List α) (W:World):Prop:=
 ∃ s g',Iv q s/\RB X lf A g (bx s0) a w (bx s) g' W/\W.heap[w.heap.size+1]?=some (.loop (rec .ready none))/\W.heap[w.heap.size]?=some (.deferred (some []))
section
variable {P:Program} {X:Ctx} {f:Nat->Slot} {own:Own} {Rs:(Nat->Slot)->Own->Prop} {κ τ σ:Type} {b:Nat} {gop:Operand} {p0:Tmp} {asg bdy y:Code} {T:MT κ τ} {gf:Nat} {s0:σ} {Iv:List (κ×τ)->σ->Prop}
theorem w37 {lf:List (Nat×Slot)} {bx:σ->Bx} (hkin:∀ k w M,(T.kV k).p w M (T.ck k)) (nd:∀ s,ndB ((bx s).map (·.1))=true) (hk:∀ s s',(bx s).map kyB=(bx s').map kyB) (hok:∀ A s,okL [] (mkB A (bx s))=true) (hcl:∀ s,(bx s).all (λp=>boxB p.2)=true) (hsim:∀ s,lf.all (λp=>simS (bx s) p.2)=true) (hp0:p0 < X.N)
  (hround:∀ (A:Nat->Nat) (X':Ctx) (p:κ×τ) (q:List (κ×τ)) (j:Nat) (s:σ),X'.N=X.N->Iv q s->q[j]?=some p ->
   AWP P X' asg (λe f1 own1=>e = .normal/\∃ lf1 lo1,subF f1 lf1/\subO own1 lo1/\okL lf1 lo1=true/\lo1.all (λp=>boxB p.2)=true/\ndB (lo1.map (·.1))=true /\
    ∀ X2:Ctx,X2.N=X.N->AWP P X2 bdy (λe f2 own2=>match e with
     | .normal=>∃ s',Iv (q.eraseIdx j) s'/\subO own2 (mkB A (bx s'))
     | _=>False) (frs lf1) (ows lo1))
    (updS (frs lf) (some p0) (.dat (T.kV p.1))) (ows (mkB A (bx s))))
  {A:Nat->Nat} {g:Gh} {a:Act} {w:World} {fn:FuncId} (hXw:X.w0.heap.size<=w.heap.size) {q:List (κ×τ)} {j:Nat} {p:κ×τ} {W:World} (hj:q[j]?=some p)
  (hJ:JK X lf A g bx s0 a w Iv (recK fn a.tmps p0 asg bdy w.heap.size) q W) :
  YieldAt Fence.wide 0 P (w.heap.size+1) #[T.ck p.1] W λe W'=>e = .returned (.bool true)/\JK X lf A g bx s0 a w Iv (recK fn a.tmps p0 asg bdy w.heap.size) (q.eraseIdx j) W'/\∀ (r:Nat) (o:Obj),W.heap[r]?=some o->isIt o=true->W'.heap[r]?=some o:=by
 have ndk:∀ s,ndB ((mkB A (bx s)).map (·.1))=true:=λs=>by rw [Wl];exact nd s
 obtain⟨s,g',h1,h2,h3,h4⟩:=hJ;obtain⟨lr,hlr⟩:∃ lr,lr=w.heap.size+1:=⟨_,rfl⟩
 rw [← hlr] at h3 ⊢
 have hy:(Instr.yield lr #[T.ck p.1]).run P W = .ok (.round lr fn (a.tmps.setIfInBounds p0 (T.ck p.1)) asg bdy) W:=by
  have:=run_yield (P:=P) (args:=#[T.ck p.1]) h3 (by rfl);simpa [recK] using this
 refine⟨_,_,_,_,hy,roundIn_of_wpIn trivial ?_⟩;have hN:a.tmps.size=X.N:=h2.rel.n
 have e0:(Rel (Yj X g' (mkB A (bx s)) W (some lr) []) (updS (frs lf) (some p0) (.dat (T.kV p.1))) (ows (mkB A (bx s))) g' { tmps:=a.tmps.setIfInBounds p0 (T.ck p.1),defers:=[] } W):=by
  refine h2.rel.here (ndk s) (some lr) [] (by simpa using hN) rfl λt=>?_;show RepS g' W _ _ ((a.tmps.setIfInBounds p0 (T.ck p.1)).getD t undef);rw [xj (N:=X.N) hN hp0]
  by_cases ht0:t=p0
  ·subst ht0;rw [if_pos rfl];have:updS (frs lf) (some t) (.dat (T.kV p.1)) t = .dat (T.kV p.1):=by simp [updS]
   rw [this];exact hkin p.1 _ _
  ·rw [if_neg ht0];have:updS (frs lf) (some p0) (.dat (T.kV p.1)) t=frs lf t:=by simp [updS,qz ht0]
   rw [this];exact h2.rel.fr t
 refine wpIn_mono (hround A (Yj X g' (mkB A (bx s)) W (some lr) []) p q j s rfl h1 hj g' _ W e0) ?_;rintro e a1 Wa ⟨f1,own1,g1,k1,rfl,lf1,lo1,q1,q2,q3,q4,q5,hbody⟩;obtain⟨g1',k1'⟩:=k1.less lf1 lo1 q1 q2 q3;have kpa:Kp (blks g' (mkB A (bx s))) W Wa:=k1'.kp;have hctl:∀ (b:Nat) (o:Obj),W.heap[b]?=some o->Zz o=false->Wa.heap[b]?=some o:=λb o hb ho=>(kpa.block b (vh hb) (Qp h2.rel (ndk s) (z2p A h2.bx) hb ho)).trans hb;have hla:=hctl _ _ h3 rfl;have hda:=hctl _ _ h4 rfl;obtain⟨bs,hbs⟩:∃ bs,bs=Obj.loop { recK fn a.tmps p0 asg bdy w.heap.size .ready none with state:=.busy }:=⟨_,rfl⟩
 refine⟨Wa.putObj lr bs,by rw [hbs];exact run_beginRound hla rfl,?_⟩;have k2:=Rel.rebase h2.rel (ndk s) k1';have k3:=k2.putCtl q4 bs hla rfl (by show X.w0.heap.size<=lr;omega);have k4:=k3.here q5 (some lr) [] k3.n k3.df k3.fr;have hlb:(Wa.putObj lr bs).heap[lr]?=some bs:=World.putObj_heap_same (vh hla);have hdb:(Wa.putObj lr bs).heap[w.heap.size]?=some (.deferred (some [])):=(World.putObj_heap_other (by omega)).trans hda;have hbc:Zz bs=false:=by rw [hbs];rfl
 obtain⟨X2,hX2⟩:∃ X2,X2=Yj { X with R:=some lr,D:=[] } g1' lo1 (Wa.putObj lr bs) (some lr) []:=⟨_,rfl⟩
 have hX2R:X2.R=some lr:=by rw [hX2];rfl
 have hb:=hbody X2 (by rw [hX2];rfl) g1' a1 _ (by rw [hX2];exact k4);rw [hX2R] at hb;refine wpIn_mono hb ?_;rintro e a3 W3 ⟨f2,own2,g2,k5,hcase⟩;rw [hX2] at k5;have kpb:Kp (blks g1' lo1) (Wa.putObj lr bs) W3:=k5.kp;have hl3:W3.heap[lr]?=some (.loop { recK fn a.tmps p0 asg bdy w.heap.size .ready none with state:=.busy }):=((kpb.block lr (vh hlb) (Qp k3 q5 q4 hlb hbc)).trans hlb).trans (by rw [hbs]);have hd3:W3.heap[w.heap.size]?=some (.deferred (some [])):=(kpb.block _ (vh hdb) (Qp k3 q5 q4 hdb rfl)).trans hdb
 have hend:∀ jump:Option Code,(Instr.endRound lr jump).run P W3 = .ok (.bool jump.isNone) (W3.putObj lr (.loop (recK fn a.tmps p0 asg bdy w.heap.size (if jump.isNone then .ready else .done) jump))):=λjump=>by
  have:=run_endRound (P:=P) jump hl3;exact this
 cases e with
 | normal =>
  obtain⟨s',hI,hs'⟩:=hcase;obtain⟨g3,k6⟩:=h2.round k1' q4 q5 hla rfl (by omega) hXw k5 hs' (hok A s') (hcl s') (nd s) (nd s') (hk s' s) (hsim s);refine⟨_,_,hend none,rfl,⟨s',g3,hI,k6.put _ hl3 rfl (by omega) hXw,by rw [← hlr];exact World.putObj_heap_same (vh hl3),(World.putObj_heap_other (by omega)).trans hd3⟩,λr o hr ho=>?_⟩;have hne:r≠lr:=by rintro rfl;rw [h3] at hr;cases hr;cases ho
  have e1:=hctl r o hr (y9r ho);have e2:(Wa.putObj lr bs).heap[r]?=some o:=(World.putObj_heap_other hne).trans e1;exact (World.putObj_heap_other hne).trans ((kpb.block r (vh e2) (Qp k3 q5 q4 e2 (y9r ho))).trans e2)
 | ret=>exact hcase.elim
 | exit id=>exact hcase.elim
 | goto t=>exact hcase.elim
 | panic ch=>exact hcase.elim
 | outgrown=>exact hcase.elim
theorem y9b {N:Nat} {u:V} {ks:List κ} (hX:X.R=none) (hN:X.N=N)
  (lf:List (Nat×Slot)) (b0:Bx) (bx:σ->Bx) (hkin:∀ k w M,(T.kV k).p w M (T.ck k))
  (hit:y53 P gf T) (hu:MpK T u ks) (hen:∀ args w,(callFunc gf args).run P w = .ok (.enter gf args) w) (hg:evS (frs lf) gop = .dat (vfn gf [qn [[u]] 0 0])) (H:∀ L,L.map (·.1)=ks->Iv L s0)
  (hf:subF f lf) (ho:subO own b0) (hok0:okL lf b0=true) (nd0:ndB (b0.map (·.1))=true)
  (hb0:∀ A,mkB A (bx s0)=mkB A b0) (nd:∀ s,ndB ((bx s).map (·.1))=true) (hk:∀ s s',(bx s).map kyB=(bx s').map kyB) (hok:∀ A s,okL [] (mkB A (bx s))=true) (hcl:∀ s,(bx s).all (λp=>boxB p.2)=true) (hsim:∀ s,lf.all (λp=>simS (bx s) p.2)=true) (hp0:p0 < N)
  (hround:∀ (A:Nat->Nat) (X':Ctx) (p:κ×τ) (q:List (κ×τ)) (j:Nat) (s:σ),X'.N=N->Iv q s->q[j]?=some p ->
   AWP P X' asg (λe f1 own1=>e = .normal/\∃ lf1 lo1,subF f1 lf1/\subO own1 lo1/\okL lf1 lo1=true/\lo1.all (λp=>boxB p.2)=true/\ndB (lo1.map (·.1))=true /\
    ∀ X2:Ctx,X2.N=N->AWP P X2 bdy (λe f2 own2=>match e with
     | .normal=>∃ s',Iv (q.eraseIdx j) s'/\subO own2 (mkB A (bx s'))
     | _=>False) (frs lf1) (ows lo1))
    (updS (frs lf) (some p0) (.dat (T.kV p.1))) (ows (mkB A (bx s))))
  (hdone:∀ (A:Nat->Nat) (X':Ctx) (s:σ),X'.N=N->X'.R=none->Iv [] s->AWP P X' y (λe f2 own2=>(e = .normal∨e = .ret)/\RetK Rs f2 own2) (frs lf) (ows (mkB A (bx s)))) :
  y51 P X Rs b gop #[p0] asg bdy y f own:=by
 subst hN;intro g0 a w hr0;obtain⟨A,g,hr⟩:=hr0.anchor lf b0 (bx s0) hb0 hf ho hok0 nd0;have ndk:∀ s,ndB ((mkB A (bx s)).map (·.1))=true:=λs=>by rw [Wl];exact nd s
 have hXw:X.w0.heap.size<=w.heap.size:=hr.kp.size;have hgv:=hr.ev gop;rw [hg] at hgv;obtain⟨lb,hfn,hT1,hT2⟩:=hgv;obtain⟨cap,rfl⟩:∃ cap,lb=[cap]:=List.length_eq_one_iff.1 hT1;obtain⟨cap',hc1,hcap⟩:=hT2 0 _ rfl;obtain rfl:cap=cap':=by simpa using hc1
 obtain⟨cb,coff,csz,hcv,hcM,carr,ce,cfz,hc4,hc5,hc6⟩:=hcap;obtain⟨sv,hs1,hs2,hs5⟩:=hc6 0 0 _ u rfl rfl;obtain⟨mb,es,cl,L,hm1,hE,hL⟩:=hu _ _ _ hs2
 have hcap:(qn [[vmpX mb es cl]] 0 0).p w (Mof X g (ows (mkB A (bx s0)))) cap:=by
  refine⟨cb,coff,csz,hcv,hcM,carr,ce,cfz,hc4,λel hel=>?_,λk c el u' hk' hc=>?_⟩
  ·rw [List.mem_singleton.1 hel];exact hc5 [u] (by simp)
  ·rcases k with _|k
   ·cases hk';rcases c with _|c
    ·cases hc;exact⟨sv,hs1,hm1,hs5⟩
    ·simp at hc
   ·simp at hk'
 have hExt:∀ {lB g' W},RB X lf A g (bx s0) a w lB g' W->Ext (Mof X g (ows (mkB A (bx s0)))) (Mof X g (ows (mkB A (bx s0)))) w W:=λh =>
  ⟨h.sz,λb hb hM hc=>h.st b hb (λhm=>hM (by
   obtain⟨i,o,h1,h2⟩:=Zm.1 hm
   exact .inr ⟨i,o,(uq (ndk s0)).2 h1,h2⟩)) hc,λ_ _ h=>h⟩
 refine wpIn_block ?_;refine wpIn_rangeFunc ?_;intro fn _
 have hL1:((w.alloc (.deferred (some []))).alloc (.loop (recK fn a.tmps p0 asg bdy w.heap.size .ready none))).heap[w.heap.size+1]?=some (.loop (recK fn a.tmps p0 asg bdy w.heap.size .ready none)):=by
  have:=World.alloc_heap_new (w.alloc (.deferred (some []))) (.loop (recK fn a.tmps p0 asg bdy w.heap.size .ready none));rwa [World.size_alloc] at this
 have hK1:((w.alloc (.deferred (some []))).alloc (.loop (recK fn a.tmps p0 asg bdy w.heap.size .ready none))).heap[w.heap.size]?=some (.deferred (some [])):=
  (Below.heap_alloc _ _ _ (by simp)).trans (World.alloc_heap_new w _)
 have hkp1:Kp [] w ((w.alloc (.deferred (some []))).alloc (.loop (recK fn a.tmps p0 asg bdy w.heap.size .ready none))):=((Kp.refl [] w).alloc _).alloc _;have hsz1:((w.alloc (.deferred (some []))).alloc (.loop (recK fn a.tmps p0 asg bdy w.heap.size .ready none))).heap.size=w.heap.size+2:=by simp
 have hent:=run_enterLoop_outer (P:=P) (w:=w) fn a.tmps #[p0] asg bdy;generalize hW1:(w.alloc (.deferred (some []))).alloc (.loop (recK fn a.tmps p0 asg bdy w.heap.size .ready none))=W1 at hL1 hK1 hkp1 hsz1;have hRB0:RB X lf A g (bx s0) a w (bx s0) g w:=⟨hr,Nat.le_refl _,λ_ _ _ _=>rfl,λid o b h1 h2=>.inl (Zm.2 ⟨id,o,(uq (ndk s0)).1 h1,h2⟩),hcl s0⟩
 have hgrow:∀ q W W',JK X lf A g bx s0 a w Iv (recK fn a.tmps p0 asg bdy w.heap.size) q W->Kp [] W W'->JK X lf A g bx s0 a w Iv (recK fn a.tmps p0 asg bdy w.heap.size) q W':=λq W W' ⟨s,g',h1,h2,h3,h4⟩ hk'=>⟨s,g',h1,h2.grow hk',(hk'.block _ (vh h3) (by simp)).trans h3,(hk'.block _ (vh h4) (by simp)).trans h4⟩
 have hcall:=hit mb es cl L (Mof X g (ows (mkB A (bx s0)))) (w.heap.size+1) cap (JK X lf A g bx s0 a w Iv (recK fn a.tmps p0 asg bdy w.heap.size)) W1 hE hgrow
  (λq W W' r o ⟨s,g',h1,h2,h3,h4⟩ hro hit hr1 hk'=>by
   have hrne1:w.heap.size+1≠r:=by rintro rfl;rw [h3] at hro;cases hro;cases hit
   have hrne2:w.heap.size≠r:=by rintro rfl;rw [h4] at hro;cases hro;cases hit
   have hrlt:=vh hro;have hrlt':r < W'.heap.size:=Nat.lt_of_lt_of_le hrlt hk'.size;obtain⟨o',ho'⟩:∃ o',W'.heap[r]?=some o':=⟨_,Array.getElem?_eq_getElem hrlt'⟩
   have hk2:Kp [] (W.putObj r o') W':=⟨hk'.os,hk'.tape,hk'.output,by simpa using hk'.size,λb hb _=>by
    by_cases hbr:b=r
    ·subst hbr;rw [ho',World.putObj_heap_same hrlt]
    ·rw [World.putObj_heap_other hbr]
     exact hk'.block b (by simpa using hb) (by simpa using hbr)⟩
   exact hgrow q (W.putObj r o') W' ⟨s,g',h1,h2.put o' hro (y9r hit) (by omega) hXw,(World.putObj_heap_other hrne1).trans h3,(World.putObj_heap_other hrne2).trans h4⟩ hk2)
  (λq W ⟨s,g',h1,h2,h3,h4⟩=>⟨⟨λb hb=>Nat.lt_of_lt_of_le (hr.mlt.1 b hb) h2.sz,h2.rel.mlt.2.1,hr.mlt.2.2⟩,(qn [[vmpX mb es cl]] 0 0).keep (hExt h2) hcap⟩)
  (λq j p W hj hJ=>w37 (T:=T) hkin nd hk hok hcl hsim hp0 hround hXw hj hJ)
  ⟨s0,g,H L hL,hRB0.grow hkp1,hL1,hK1⟩
 have hres:(resolve a.eval (rangeCall gop (w.heap.size+1)) 0).run P W1 = .ok { target:=.fn (.func gf) #[cap],args:=#[.func (.yield (w.heap.size+1)) #[] #[]] } W1:=by
  simp only [resolve,hfn];simp [go_sem]
 have hinv:(invoke (.fn (.func gf) #[cap]) #[.func (.yield (w.heap.size+1)) #[] #[]]).run P W1 = .ok (.enter gf #[.func (.yield (w.heap.size+1)) #[] #[],cap]) W1:=by
  simp [invoke,go_sem,hen]
 have hX3:∀ (W2:World) (lB:Bx) (g':Gh) (o':Obj) {st pe},RB X lf A g (bx s0) a w lB g' W2->W2.heap[w.heap.size+1]?=some (.loop (recK fn a.tmps p0 asg bdy w.heap.size st pe))->W2.heap[w.heap.size]?=some (.deferred (some [])) ->
   RB X lf A g (bx s0) a w lB g' (W2.putObj (w.heap.size+1) o')/\(W2.putObj (w.heap.size+1) o').heap[w.heap.size]?=some (.deferred (some [])):=λW2 lB g' o' st pe h2 h3 h4 =>
  ⟨h2.put o' h3 rfl (by omega) hXw,(World.putObj_heap_other (by omega)).trans h4⟩
 refine⟨w.heap.size+1,[Yt w.heap.size],W1,_,W1,gf,_,W1,by rw [← hW1];exact hent,hres,λ_ _=>trivial,hinv,λh=>by simp [Fence.wide] at h,?_⟩;refine CallsIn.mono hcall ?_;rintro e W2 ⟨⟨v,rfl⟩,⟨s,g',h1,h2,h3,h4⟩⟩
 ·obtain⟨h5,h6⟩:=hX3 W2 (bx s) g' (.loop (recK fn a.tmps p0 asg bdy w.heap.size .exhausted none)) h2 h3 h4;refine⟨none,_,run_endLoop (P:=P) h3 (by simp [recK]),?_⟩;have h7:=h5.rel.here (ndk s) none (Yt w.heap.size::X.D) (a':={ a with defers:=Yt w.heap.size::a.defers }) h5.rel.n (by show _::a.defers=_;rw [h5.rel.df]) h5.rel.fr;obtain⟨X3,hX3⟩:∃ X3,X3=Yj X g' (mkB A (bx s)) (W2.putObj (w.heap.size+1) (.loop (recK fn a.tmps p0 asg bdy w.heap.size .exhausted none))) none (Yt w.heap.size::X.D):=⟨_,rfl⟩
  have hd:=hdone A X3 s (by rw [hX3];rfl) (by rw [hX3];rfl) h1 g' _ _ (by rw [hX3];exact h7);have hR3:X3.R=none:=by rw [hX3];rfl
  rw [hR3] at hd;refine wpIn_mono hd ?_;rintro e a3 W3 ⟨f2,own2,g2,k5,he,lf',lo',r1,r2,r3,r4,r5⟩;rw [hX3] at k5;obtain⟨g3,k6⟩:=k5.less lf' lo' r1 r2 r3;have k7:=(Rel.rebase h5.rel (ndk s) k6).setD X.D rfl;have kpc:=k6.kp;exact⟨he,lf',lo',g3,r4,r5,.inr ⟨w.heap.size,k6.df,hXw,(kpc.block _ (vh h6) (Qp h5.rel (ndk s) (z2p A h5.bx) h6 rfl)).trans h6,k7⟩⟩
end
theorem x1c {P:Program} {X:Ctx} {Rs:(Nat->Slot)->Own->Prop} {c:Code} {f:Nat->Slot} {own:Own} (hR:X.R=none) (h:AWP P X c (λe f own=>(e = .normal∨e = .ret)/\RetK Rs f own) f own):AWPK P X Rs c f own:=by
 intro g a w hr;have h0:=h g a w hr;rw [hR] at h0;refine wpIn_mono h0 ?_;rintro e a' w' ⟨f',own',g',h1,he,lf,lo,q1,q2,q3,q4,q5⟩;obtain⟨g'',h3⟩:=h1.less lf lo q1 q2 q3;exact⟨he,lf,lo,g'',q4,q5,.inl h3⟩
abbrev itX (M:Blks) (W:World) (r N:Nat):Ctx:=⟨M,W,[r],N,none,[]⟩
theorem Zi {κ τ:Type} {T:MT κ τ} {b:Nat} {es:Array MapEntry} {cl:Nat} {q:List (κ×τ)} {cur:Option (κ×τ)} {o:Obj} (h:itO T b es cl q cur o):isIt o=true:=by
 obtain⟨since,seen,c0,rfl,_⟩:=h;rfl
theorem z6h {κ τ:Type} {T:MT κ τ} {W W0:World} {M:Blks} {b:Nat} {es:Array MapEntry} {cl:Nat} {q:List (κ×τ)} {cap:Value} {r l:Nat} {o:Obj} {a:Act} {N:Nat} (hM:Mlt W M) (hM0:Mlt W0 M) (hcp:(qn [[vmpX b es cl]] 0 0).p W M cap) (hrW:W0.heap.size<=r) (ho:W.heap[r]?=some o) (hi:itO T b es cl q none o) (hN:a.tmps.size=N) (hD:a.defers=[]) (t0:a.tmps.getD 0 undef=yv l) (t5:a.tmps.getD 5 undef=PB r) :
  Rel (itX M W r N) (frs [(0,.dat (vval (yv l))),(5,.dr 1 (vIt b es cl))]) (ows [(1,.opq (some r) (itO T b es cl q none))]) ⟨λi=>if i=1 then some r else none,λ_ _=>none⟩ a W:=by
 have hMr:¬ M r:=λh=>by have:=hM0.1 r h;omega
 obtain⟨cb,coff,csz,_,_,arr,ce,cfz,_,_,hc6⟩:=hcp;obtain⟨sv,_,⟨_,hMb,hb⟩,_⟩:=hc6 0 0 _ _ rfl rfl
 have hbr:b≠r:=by
  rintro rfl;rw [hb] at ho;cases ho;have:=Zi hi;cases this
 have hone:∀ id o',ows [(1,AObj.opq (some r) (itO T b es cl q none))] id=some (some o')->id=1/\o' = .opq (some r) (itO T b es cl q none):=λid o' h=>by
  by_cases h1:id=1
  ·subst h1;cases h;exact⟨rfl,rfl⟩
  ·unfold ows at h;simp only [List.map_cons,List.map_nil,upl,qz h1,cond_false] at h;cases h
 have hMof:∀ x,Mof (itX M W r N) ⟨λi=>if i=1 then some r else none,λ_ _=>none⟩ (ows [(1,.opq (some r) (itO T b es cl q none))]) x->M x∨x=r:=λx hx=>by
  rcases hx with hx|⟨id,o',h1,h2⟩
  ·exact .inl hx
  ·obtain⟨rfl,rfl⟩:=hone id o' h1;have h2:(if 1=1 then some r else none)=some x:=h2;simp at h2;exact .inr h2.symm
 obtain⟨_,_,_,hgl⟩:=hM0.2.1;refine⟨Kp.refl _ _,⟨λx hx=>⟨hM.1 x hx,λhm=>?_⟩,hM.2.1,λx hx=>⟨hM.2.2 x hx,λhm=>?_⟩⟩,hN,hD,λt=>?_,λid o' h=>?_,λid id' o' o'' x h1 h2 _ _=>?_,λid o' x h1 h2=>?_,λid h=>?_,λid e size es' h=>?_⟩
 ·exact hMr (by rw [List.mem_singleton.1 hm] at hx;exact hx)
 ·have:=(hgl x hx).1;rw [List.mem_singleton.1 hm] at this;omega
 ·by_cases h0:t=0
  ·subst h0;exact t0
  ·by_cases h5:t=5
   ·subst h5;refine⟨r,rfl,t5,λhm=>?_,hb⟩;rcases hMof b hm with h|h
    ·exact hMb h
    ·exact hbr h
   ·have:frs [(0,Slot.dat (vval (yv l))),(5,.dr 1 (vIt b es cl))] t = .any:=by
     unfold frs;simp only [upl,qz h0,qz h5,cond_false]
    rw [this];trivial
 ·obtain⟨rfl,rfl⟩:=hone id o' h;exact⟨r,o,rfl,λq hq=>(Option.some.inj hq).symm,ho,hi⟩
 ·rw [(hone id o' h1).1,(hone id' o'' h2).1]
 ·obtain⟨rfl,rfl⟩:=hone id o' h1;have h2:(if 1=1 then some r else none)=some x:=h2;simp at h2;subst h2;exact .inl (List.mem_singleton.2 rfl)
 ·by_cases h1:id=1
  ·subst h1;cases h
  ·exact⟨if_neg h1,λ_=>rfl⟩
 ·have:=(hone id _ h).2;cases this
theorem y7x {P:Program} {c:Code} {W:World} {M:Blks} {N:Nat} {a:Act} (hM:Mlt W M) (hN:a.tmps.size=N) (hD:a.defers=[]) (lf:List (Nat×V)) (hr:repL W M a lf) {Q:Exit->(Nat->Slot)->Own->Prop}
  (h:∀ X:Ctx,X.N=N->AWP P X c Q (frs (datL lf)) (λ_=>none)) :
  c.wpIn (FR none) 0 P (λe a' W'=>∃ (X:Ctx) (f:Nat->Slot) (own:Own) (g:Gh),Rel X f own g a' W'/\(X.w0=W/\X.S0=[])/\(X.N=N/\X.D=[])/\Q e f own) a W:=by
 have hk:∀ (u:V) (v:Value),u.p W M v->u.p W (Mof ⟨M,W,[],N,none,[]⟩ ⟨λ_=>none,λ_ _=>none⟩ λ_=>none) v:=λu v hv=>u.keep ⟨Nat.le_refl _,λ_ _ _ _=>rfl,λb _ hb=>by
  rcases hb with hb|⟨id,o,ho,_⟩
  ·exact hb
  ·cases ho⟩ hv
 have h0:=h ⟨M,W,[],N,none,[]⟩ rfl ⟨λ_=>none,λ_ _=>none⟩ a W ⟨Kp.refl _ _,⟨λb hb=>⟨hM.1 b hb,by simp⟩,hM.2.1,λb hb=>⟨hM.2.2 b hb,by simp⟩⟩,hN,hD,λt=>?_,λid o ho=>(by cases ho),λid _ o _ b ho=>(by cases ho),λid o b ho=>(by cases ho),λid _=>⟨rfl,λ_=>rfl⟩,λid e size es h=>(by cases h)⟩
 ·refine wpIn_mono h0 ?_;rintro e a' W' ⟨f',own',g',k,hq⟩;exact⟨_,f',own',g',k,⟨rfl,rfl⟩,⟨rfl,rfl⟩,hq⟩
 ·have key:∀ (l:List (Nat×V)),repL W M a l->∀ t,RepS ⟨λ_=>none,λ_ _=>none⟩ W (Mof ⟨M,W,[],N,none,[]⟩ ⟨λ_=>none,λ_ _=>none⟩ λ_=>none) (frs (datL l) t) (a.tmps.getD t undef):=by
   intro l
   induction l with
   | nil=>intro _ t;trivial
   | cons p l ih =>
    obtain⟨k,u⟩:=p;intro hl t
    by_cases ht:t=k
    ·subst ht
     have e1:frs (datL ((t,u)::l)) t = .dat u:=by
      unfold frs datL;have:Nat.beq t t=true:=by simp
      simp only [List.map_cons,upl,this,cond_true]
     rw [e1];exact hk u _ hl.1
    ·have e1:frs (datL ((k,u)::l)) t=frs (datL l) t:=by
      unfold frs datL;simp only [List.map_cons,upl,qz ht,cond_false]
     rw [e1];exact ih hl.2 t
  exact key lf hr t
theorem y8f {κ τ:Type} {s ks:List κ} {q:List (κ×τ)} {j:Nat} {p:κ×τ} (h:(s++q.map (·.1)).Perm ks) (hj:q[j]?=some p):((s++[p.1])++(q.eraseIdx j).map (·.1)).Perm ks:=by
 obtain⟨h1,h2⟩:=List.getElem?_eq_some_iff.1 hj;have h3:(p::q.eraseIdx j).Perm q:=by rw [← h2];exact x0l q j h1
 have h4:=h3.map (·.1);rw [List.append_assoc];exact (List.Perm.append_left s (by simpa using h4)).trans h
section
variable {P:Program} {f:Nat->Slot} {dst:Option Tmp} {ty:TypeId} {pos:String} {af:Array Edge} {gd:Option (Nat×Bool)}
theorem z4s {ι:Type} (id2:Nat) {fn:Nat} {xs:List Operand} {ts:Array TypeId} {us:List V} {e:TypeId} {size:Nat} {es:ι->List (List V)} (hF:FnK P fn us e size es) (ha:z39 f xs us) :
  StpI P ⟨dst,.call { callee:=.value (.func fn),args:=xs.toArray,argTypes:=ts },ty,pos,af,gd⟩ f [(id2,none)] (λi:ι=>.row id2 (es i).length) (λi=>[(id2,some (some (.row e size (es i))))]):=by
 intro X f' own g a w Q hr hd hx hrd K hK;have ho2:own id2=none:=hrd (id2,none) (by simp)
 have hop:∀ y,y∈xs->RepS g w (Mof X g own) (evS f y) (a.eval y):=λy hy=>by
  have:=hx y (by simp only [Op.operands,Call.operands];simp at hy ⊢;exact .inr hy);rw [← this];exact hr.ev y
 unfold Oper.wp;rw [z4u hF.1 _ ts a.eval rfl w];show Calls P fn (xs.toArray.map a.eval) w _
 have hcall:=hF.2 (Mof X g own) w (xs.toArray.map a.eval) hr.mlt (by
  have:=y1r xs us ha hop
  simpa using this)
 refine hcall.mono ?_;rintro e' w' ⟨i,v,rfl,hkp,⟨xs',n1,n2,n3,n4,n5⟩⟩
 let own':Own:=upl own [(id2,some (some (.row e size (es i))))]
 have u2:own' id2=some (some (.row e size (es i))):=vp;have u3:∀ k,k≠id2->own' k=own k:=λk h6=>ve h6
 let g':Gh:=⟨g.bl,λk m=>if k=id2/\m=(es i).length then some v else g.sv k m⟩
 have hsv:g'.sv id2 (es i).length=some v:=if_pos ⟨rfl,rfl⟩
 have hle:g.le g':=⟨λ_ _ h=>h,λk m u hu=>by
  show (if k=id2/\m=(es i).length then some v else g.sv k m)=some u;rw [if_neg]
  ·exact hu
  ·rintro⟨rfl,rfl⟩;rw [(hr.fresh k ho2).2] at hu
   cases hu⟩
 have ob2:∀ x,obk g' id2 (.row e size (es i))=some x↔v.ownBlock=some x:=λx=>by simp only [obk,hsv,Option.bind_some]
 have hM':∀ x,Mof X g' own' x->Mof X g own x∨v.ownBlock=some x:=λx hx=>by
  rcases hx with hx|⟨k,o,h5,h6⟩
  ·exact .inl (.inl hx)
  ·by_cases hi2:k=id2
   ·subst hi2;rw [u2] at h5;cases h5;exact .inr ((ob2 x).1 h6)
   ·rw [u3 k hi2] at h5;rw [(hr.ob k o h5).obk_eq hle] at h6;exact .inl (.inr ⟨k,o,h5,h6⟩)
 have hEx:Ext (λx=>Mof X g own x∨v.ownBlock=some x) (Mof X g' own') w' w':=⟨Nat.le_refl _,λ_ _ _ _=>rfl,λx _ hx=>hM' x hx⟩
 have hst:=hr.step (own':=own') (g':=g') (w':=w') hle (.inl hkp) (λk o h5=>by
  by_cases hi2:k=id2
  ·subst hi2;rw [u2] at h5;cases h5;refine .inr ⟨⟨v,xs',hsv,n1,n3,n4,λm c el u hk hc=>?_⟩,λx hx=>.inl (n2 x ((ob2 x).1 hx))⟩;obtain⟨y,s1,s2,s3⟩:=n5 m c el u hk hc;exact⟨y,s1,u.keep hEx s2,s3⟩
  ·rw [u3 k hi2] at h5
   exact .inl ⟨h5,λx hx=>hkp.block x ((hr.ob k o h5).blk_lt hx) (by simp)⟩)
  (λk hi=>by
   by_cases hi2:k=id2
   ·subst hi2;rw [u2] at hi;cases hi
   ·rw [u3 k hi2] at hi
    exact⟨(hr.fresh k hi).1,λn=>by
     show (if k=id2/\n=(es i).length then some v else g.sv k n)=none
     rw [if_neg (λh=>hi2 h.1)];exact (hr.fresh k hi).2 n⟩)
  (λk e'' s'' es'' h5 m hk=>by
   by_cases hi2:k=id2
   ·subst hi2;rw [u2] at h5;cases h5;show (if k=k/\m=(es i).length then some v else g.sv k m)=none;rw [if_neg (by omega)];exact (hr.fresh k ho2).2 m
   ·rw [u3 k hi2] at h5;show (if k=id2/\m=(es i).length then some v else g.sv k m)=none
    rw [if_neg (λh=>hi2 h.1)];exact hr.top k e'' s'' es'' h5 m hk)
  (λk k' o1 o2 x h5 h6 h7 h8 hs=>by
   have key:∀ k o1,own' k=some (some o1)->obk g' k o1=some x->k=id2:=by
    intro k o1 h5 h7
    by_cases hi2:k=id2
    ·exact hi2
    ·exfalso;rw [u3 k hi2] at h5;rw [(hr.ob k o1 h5).obk_eq hle] at h7;have:=(hr.ob k o1 h5).blk_lt h7;omega
   rw [key k o1 h5 h7,key k' o2 h6 h8])
 exact hK i g' v w' (hst.1.put _ (.row id2 (es i).length) v hd hsv)
end
end Go.Proofs.YtbpedjpoikmbjaaGreatDoor
