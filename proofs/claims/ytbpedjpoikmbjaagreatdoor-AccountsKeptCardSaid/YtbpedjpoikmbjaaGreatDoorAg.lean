import Derived.Test.YtbpedjpoikmbjaaGreatDoorDr
namespace Go.Proofs.YtbpedjpoikmbjaaGreatDoor
open Go.RowKit
set_option linter.unusedVariables false
abbrev Rds:=List (Nat×Option (Option AObj))
def x8i (rd:Rds) (s:Slot) (ws:List Cmp):Prop:=(∃ us,y56 s us/\ws=us.map .dat)∨(∃ id n e size es,s = .row id n/\(id,some (some (.row e size es)))∈rd/\n=es.length/\ws=[.row id n])∨(∃ id,s = .mp id/\ws=[.mp id])
def RepK (g:Gh) (w:World) (M:Blks) (cs:List Cmp) (l:List Value):Prop:=l.length=cs.length/\∀ (j:Nat) (c:Cmp),cs[j]?=some c->∃ x,l[j]?=some x/\RepC g w M c x/\x.oneCell'=true
theorem w8m {rd:Rds} {g:Gh} {w:World} {M:Blks} {s:Slot} {ws:List Cmp} {v:Value} (h:x8i rd s ws) (hv:RepS g w M s v) (hrd:∀ id e size es,(id,some (some (.row e size es)))∈rd->RepO g w M id (.row e size es)):RepK g w M ws v.cells.toList:=by
 rcases h with ⟨us,h1,rfl⟩|⟨id,n,e,size,es,rfl,h1,rfl,rfl⟩|⟨id,rfl,rfl⟩
 ·obtain⟨h2,h3⟩:=x04 h1 hv;refine⟨by rw [List.length_map];exact h2,λj c hj=>?_⟩;rw [List.getElem?_map] at hj;obtain⟨u,h4,rfl⟩:=Option.map_eq_some_iff.1 hj;exact h3 j u h4
 ·obtain⟨v',xs,q1,q2,_⟩:=hrd id e size es h1;have hv':g.sv id es.length=some v:=hv;rw [hv'] at q1;cases q1
  have h1:v.oneCell'=true:=by
   rcases q2.2 with ⟨rfl,_⟩|⟨b,cap,cur,rfl,_⟩
   ·rfl
   ·rfl
  rw [y5t h1];refine⟨rfl,λj c hj=>?_⟩
  cases j with
  | zero=>cases hj;exact⟨v,rfl,hv',h1⟩
  | succ j=>cases hj
 ·obtain⟨b,h2,rfl⟩:=hv;have h1:(Value.map (some b)).oneCell'=true:=rfl;rw [y5t h1];refine⟨rfl,λj c hj=>?_⟩
  cases j with
  | zero=>cases hj;exact⟨_,rfl,⟨b,h2,rfl⟩,h1⟩
  | succ j=>cases hj
def putC (us:List Cmp) (off:Nat) (ws:List Cmp):List Cmp:=us.take off++ws++us.drop (off+ws.length)
def x08:List Cmp->List (Nat×List Cmp)->List Cmp
 | us,[]=>us
 | us,(off,ws)::ps=>x08 (putC us off ws) ps
def y8h (rd:Rds) (f:Nat->Slot) (pl:Nat->Option (Nat×Nat)) (total:Nat):List (Nat×Operand)->List (Nat×List Cmp)->Prop
 | [],[]=>True
 | (i,x)::ps,(off,ws)::pv=>pl i=some (off,ws.length)/\x8i rd (evS f x) ws/\Nat.ble (off+ws.length) total=true/\y8h rd f pl total ps pv
 | _,_=>False
theorem w73 {rd:Rds} {f:Nat->Slot} {g:Gh} {w:World} {M:Blks} {pl:Nat->Option (Nat×Nat)} {ev:Operand->Value} (hrd:∀ id e size es,(id,some (some (.row e size es)))∈rd->RepO g w M id (.row e size es)):∀ (ps:List (Nat×Operand)) (pv:List (Nat×List Cmp)) (us:List Cmp) (cells:Array Value),y8h rd f pl us.length ps pv->(∀ p,p∈ps->RepS g w M (evS f p.2) (ev p.2))->RepK g w M us cells.toList ->
  ∃ cells',Instr.fill pl cells (ps.map λp=>(p.1,ev p.2))=some cells'/\RepK g w M (x08 us pv) cells'.toList:=by
 intro ps
 induction ps with
 | nil =>
  intro pv us cells h _ hc
  cases pv with
  | nil=>exact⟨cells,rfl,hc⟩
  | cons _ _=>cases h
 | cons p ps ih =>
  obtain⟨i,x⟩:=p;intro pv us cells h hv hc
  cases pv with
  | nil=>cases h
  | cons q pv =>
   obtain⟨off,ws⟩:=q;obtain⟨h1,h2,h3,h4⟩:=h;have h3:=Nat.le_of_ble_eq_true h3;have hx:=w8m h2 (hv (i,x) (by simp)) hrd;have hcl:cells.size=us.length:=by simpa using hc.1
   have hxl:(ev x).cells.size=ws.length:=by simpa using hx.1
   have hus:(putC us off ws).length=us.length:=by unfold putC;simp;omega
   obtain⟨f1,f2⟩:=x0b (ev x).cells.toList 0 off cells (by simp;omega)
   have hfold:(ev x).cells.zipIdx.foldl (λcs (p:Value×Nat)=>cs.setIfInBounds (off+p.2) p.1) cells=((ev x).cells.toList.zipIdx 0).foldl (λcs (p:Value×Nat)=>cs.setIfInBounds (off+p.2) p.1) cells:=by
    rw [← Array.foldl_toList,Array.toList_zipIdx]
   obtain⟨cells',r1,r2⟩:=ih pv (putC us off ws) (((ev x).cells.toList.zipIdx 0).foldl (λcs (p:Value×Nat)=>cs.setIfInBounds (off+p.2) p.1) cells) (by rw [hus];exact h4) (λp hp=>hv p (List.mem_cons_of_mem _ hp)) ⟨by simp only [Array.length_toList];rw [f1,hus,hcl],λj u hj=>by
    rw [Array.getElem?_toList,f2 j];simp only [Array.length_toList,Nat.add_zero];unfold putC at hj
    by_cases hr:off<=j/\j < off+(ev x).cells.size
    ·rw [if_pos hr];rw [List.append_assoc,List.getElem?_append_right (by simp;omega),List.getElem?_append_left (by simp;omega)] at hj;have:j-(us.take off).length=j-off:=by simp;omega
     rw [this] at hj;exact hx.2 _ u hj
    ·rw [if_neg hr]
     have hj':us[j]?=some u:=by
      rcases Nat.lt_or_ge j off with hl|hl
      ·rw [List.append_assoc,List.getElem?_append_left (by simp;omega),List.getElem?_take,if_pos hl] at hj;exact hj
      ·rw [List.getElem?_append_right (by simp;omega),List.getElem?_drop] at hj;have:off+ws.length+(j-(us.take off++ws).length)=j:=by simp;omega
       rw [this] at hj;exact hj
     have:=hc.2 j u hj'
     simpa using this⟩
   refine⟨cells',?_,r2⟩;simp only [List.map_cons,Instr.fill,h1,hxl,ne_eq,not_true_eq_false,decide_false,Bool.false_or];rw [if_neg (by simp;omega),hfold];exact r1
section
variable {P:Program} {f:Nat->Slot} {dst:Option Tmp} {ty:TypeId} {pos:String} {af:Array Edge} {gd:Option (Nat×Bool)}
theorem w0b {o:Oper} {s:Slot} (rd:Rds) (h:∀ (X:Ctx) (own:Own) (g:Gh) (a:Act) (w:World),(∀ x,x∈o.op.operands->RepS g w (Mof X g own) (evS f x) (a.eval x))->(∀ id e size es,(id,some (some (.row e size es)))∈rd->RepO g w (Mof X g own) id (.row e size es))->∃ v,(execOp a.eval o).run P w = .ok (.value v) w/\RepS g w (Mof X g own) s v) :
  Stp P o f ⟨false,rd,[],s⟩:=by
 intro X f' own g a w Q hr hd hx hrd K hK;obtain⟨v,h1,h2⟩:=h X own g a w (λx hm=>by rw [← hx x hm];exact hr.ev x) (λid e size es hm=>hr.ob id _ (hrd _ hm));unfold Oper.wp;rw [h1];exact hK g v w (hr.put o.dst s v hd h2)
theorem w01 {t:TypeId} {ps:Array (Nat×Operand)} {zs:List Value} {pls:List (Nat×Nat)} (rd:Rds) (pv:List (Nat×List Cmp)) (hz:tyZ P t=some zs) (hp:tyP P t=some pls) (h1:zs.all (·.oneCell')=true) (hpv:y8h rd f (λi=>pls[i]?) zs.length ps.toList pv) :
  Stp P ⟨dst,.build t ps,ty,pos,af,gd⟩ f ⟨false,rd,[],.comp false (x08 (zs.map λz=>.dat (vval z)) pv)⟩:=
 w0b rd λX own g a w h hrd=>by
  unfold tyZ at hz
  cases hi:P.info? t with
  | none=>rw [hi] at hz;cases hz
  | some i =>
   rw [hi] at hz
   cases hzz:i.zero with
   | none=>simp [hzz] at hz
   | some z =>
    simp [hzz] at hz;have e1:z.cells=zs.toArray:=by rw [← hz]
    unfold tyP at hp
    cases hu:P.underlying t with
    | none=>rw [hu] at hp;cases hp
    | some d =>
     rw [hu] at hp;cases d <;> simp only at hp <;> try (cases hp;done)
     rename_i fs;have hpl:=x4w (P:=P) w fs.toList pls hp
     have hCs:RepK g w (Mof X g own) (zs.map λz=>Cmp.dat (vval z)) zs.toArray.toList:=by
      refine⟨by simp,λj u hj=>?_⟩;rw [List.getElem?_map] at hj
      cases hq:zs[j]? with
      | none=>rw [hq] at hj;cases hj
      | some x=>rw [hq] at hj;cases hj;exact⟨x,rfl,rfl,(List.all_eq_true.1 h1) x (List.mem_of_getElem? hq)⟩
     obtain⟨cells,r1,r2⟩:=w73 (ev:=a.eval) hrd ps.toList pv (zs.map λz=>Cmp.dat (vval z)) zs.toArray (by simp only [List.length_map];exact hpv) (λp hp=>h p.2 (by simp only [Op.operands];simp;exact⟨p.1,by simpa using hp⟩)) hCs;refine⟨.agg cells,?_,cells.toList,by simp,r2.1,λj c hj=>let ⟨x,s1,s2,s3⟩:=r2.2 j c hj;⟨x,s1,s2,λ_=>s3⟩⟩
     have hm:(fs.mapM λfl=>do pure (fl.offset,← sizeOf fl.type):Sem (Array (Nat×Nat))).run P w = .ok pls.toArray w:=by
      rw [Array.mapM_eq_mapM_toList];simp only [map_eq_pure_bind,Sem.run_bind,hpl,Result.andThen_ok,Sem.run_pure]
     have hmap:(ps.map λ(i,x)=>(i,a.eval x)).toList=ps.toList.map λp=>(p.1,a.eval p.2):=by simp
     have hpls:(λi:Nat=>pls.toArray[i]?)=λi:Nat=>pls[i]?:=by funext i;simp
     have hzv:(zeroValue t).run P w = .ok z w:=by simp [zeroValue,typeInfo,hi,hzz]
     simp only [execOp,Instr.build,hzv,Sem.run_bind,Sem.run_pure,Result.andThen_ok,run_underlying hu,hm,e1,hmap,hpls,r1]
theorem x97 {o:Oper} {s s':Slot} {rd wr:Rds} {b:Bool} (h:Stp P o f ⟨b,rd,wr,s⟩) (e:s'=s):Stp P o f ⟨b,rd,wr,s'⟩:=e ▸ h
theorem x5v {w:World} (b:Nat):∀ (vs:List Value) (w1:World) (o:Nat),Kp [b] w w1->Kp [b] w (w1.setCells b o vs)
 | [],w1,o,hk=>by rw [World.setCells];exact hk
 | v::vs,w1,o,hk=>by rw [World.setCells];exact x5v b vs _ _ (hk.set_ (.inl (by simp)) v)
theorem x7p {bt:TypeId} {b:Nat} (l:List Value):∀ (vs:List Value) (w1:World) (o:Nat) (pre:List Value),pre.length=o->w1.heap[b]?=some (.cells (pre++l.drop o).toArray bt (0,0))->o+vs.length<=l.length->(w1.setCells b o vs).heap[b]?=some (.cells (pre++vs++l.drop (o+vs.length)).toArray bt (0,0))
 | [],w1,o,pre,hp,hb,_=>by rw [World.setCells];simpa using hb
 | v::vs,w1,o,pre,hp,hb,hlen=>by
  have hd:l.drop o=l[o]'(by simp at hlen;omega)::l.drop (o+1):=List.drop_eq_getElem_cons (by simp at hlen;omega);have h1:=Blk.set_ (show Blk w1 b bt _ from hb) o v;unfold Blk at h1
  have h2:=x7p l vs (w1.setCell ⟨b,o,none⟩ v) (o+1) (pre++[v]) (by simp [hp]) (by
   rw [h1,hd];congr 2;simp only [List.setIfInBounds_toArray];congr 1;rw [List.set_append_right _ _ (by omega),hp,Nat.sub_self,List.set_cons_zero]
   simp) (by simp at hlen ⊢;omega)
  rw [World.setCells];simpa [Nat.add_comm,Nat.add_left_comm,Nat.add_assoc] using h2
theorem x95 {t:TypeId} {n:Nat} {p x:Operand} {id:Nat} {an:Option Nat} {bt:TypeId} {cs:List Slot} {us:List Cmp} (ht:tyS P t=some (true,n)) (hp:evS f p = .ptr id 0) (hx:evS f x = .comp false us) (hn:us.length=n) (hc:cs.length=n) :
  Stp P ⟨dst,.store t p x,ty,pos,af,gd⟩ f ⟨false,[(id,some (some (.box an bt cs)))],[(id,some (some (.box an bt (us.map Cmp.s))))],.any⟩:=by
 intro X f' own g a w Q hr hd hxo hrd K hK;have ho:own id=some (some (.box an bt cs)):=hrd (id,some (some (.box an bt cs))) (by simp);obtain⟨b,l,q1,q0,q2,q3,q4⟩:=hr.ob id _ ho;have h1:=hr.ev p;rw [hxo p (by simp [Op.operands]),hp] at h1;obtain⟨b',h2,h3⟩:=h1;rw [q1] at h2;cases h2;have h4:=hr.ev x;rw [hxo x (by simp [Op.operands]),hx] at h4;obtain⟨l',s1,s2,s3⟩:=h4;have s1:a.eval x = .agg l'.toArray:=s1
 have hone:∀ v∈l',v.oneCell'=true:=λv hv=>by
  obtain⟨j,hj,rfl⟩:=List.getElem_of_mem hv;obtain⟨x',t1,_,t3⟩:=s3 j us[j] (List.getElem?_eq_getElem (by omega));rw [List.getElem?_eq_getElem hj] at t1;cases t1;exact t3 rfl
 obtain⟨d,i,d1,d2,d3,d4⟩:=uk ht
 have hrun:=run_storeAt_mid (P:=P) w b 0 t l'.toArray (λj hj=>by
  have hj':j < l.length:=by simp at hj;omega
  refine⟨?_,?_⟩
  ·rw [cell_of_row w b _ _ _ _ q2];simp [hj']
  ·simp [World.frozen?,q2]) (by rw [d3];simp [d4,s2,hn]) (by simpa using hone)
 unfold Oper.wp
 have hex:(execOp a.eval ⟨dst,.store t p x,ty,pos,af,gd⟩).run P w = .ok .skip (w.setCells b 0 l'):=by
  simp only [execOp,h3,s1,Sem.run_bind,hrun,Result.andThen_ok,Sem.run_pure]
 rw [hex]
 have hb2:(w.setCells b 0 l').heap[b]?=some (.cells l'.toArray bt (0,0)):=by
  have h1:=x7p l l' w 0 [] rfl (by simpa using q2) (by omega);have h2:l.drop (0+l'.length)=[]:=List.drop_eq_nil_of_le (by omega);rw [h2] at h1;simpa using h1
 have hst:=Yb (id:=id) (ob' := .box an bt (us.map Cmp.s)) (w':=w.setCells b 0 l') hr (Gh.le_refl g) (λi _=>⟨rfl,λ_=>rfl⟩) (.inr ⟨_,b,ho,q1,x5v b l' w 0 (Kp.refl _ _)⟩) (λb' hb'=>.inr ⟨_,ho,hb'⟩) (λe size es h=>by cases h) (λM' he _=>⟨b,l',q1,q0,hb2,by rw [List.length_map];exact s2,λj s hs=>by
  rw [List.getElem?_map] at hs;obtain⟨c,h6,rfl⟩:=Option.map_eq_some_iff.1 hs;obtain⟨y,r1,r2,r3⟩:=s3 j c h6;refine⟨y,r1,?_,r3 rfl⟩;have:=r2.keep he (Gh.le_refl g)
  cases c <;> exact this⟩)
 exact hK g undef _ (hst.1.put dst .any undef hd trivial)
variable {ops:Array Oper} {own:Own} {os:List Oper} {lg:List (List Nat×List Nat)} {K:(Nat->Slot)->Own->List (List Nat×List Nat)->Prop}
end
end Go.Proofs.YtbpedjpoikmbjaaGreatDoor
