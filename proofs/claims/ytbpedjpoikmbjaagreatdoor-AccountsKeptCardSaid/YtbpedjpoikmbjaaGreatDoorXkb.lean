import Derived.Test.YtbpedjpoikmbjaaGreatDoorBd
import Derived.Test.YtbpedjpoikmbjaaGreatDoorUsXk
import Derived.Test.YtbpedjpoikmbjaaGreatDoorXkl
import Derived.Test.YtbpedjpoikmbjaaGreatDoorXkl2
namespace Go.Proofs.YtbpedjpoikmbjaaGreatDoor
set_option linter.unusedVariables false
set_option linter.unusedSimpArgs false
set_option linter.unusedSectionVars false
set_option maxRecDepth 20000
def hasO (apps:List zn) (o:Bs):Bool:=apps.any λx=>decide (x.Owner=o)
theorem w83 {m:Int} {o:Bs} {ls:List qj} {O:List (Bs×zu)} {q:Bs×zu} (h:q∈bsC m o ls O):q.1=o∨q∈O:=by
 unfold bsC at h;split at h
 ·exact .inr h
 ·rcases z4v O _ _ q h with rfl|h|h
  ·exact .inl rfl
  ·exact .inr h.1
  ·exact .inr h
theorem x64 {c:zw} {apps:List zn} {l:List zj} {u:List zz} {m:Int}:∀ (K:List zx) (O:List (Bs×zu)) (q:Bs×zu),q∈K.foldl (xq c apps l u m) O->(∃ q0,q0∈O/\q0.1=q.1)∨∃ k,k∈K/\q.1=owA apps k.app_
 | [],O,q,h=>.inl ⟨q,h,rfl⟩
 | k::K,O,q,h=>by
  rcases x64 K _ q h with ⟨q0,h1,h2⟩|⟨k',h1,h2⟩
  ·rcases w83 h1 with h3|h3
   ·exact .inr ⟨k,by simp,h2.symm.trans h3⟩
   ·exact .inl ⟨q0,h3,h2⟩
  ·exact .inr ⟨k',by simp [h1],h2⟩
theorem OI.mono {m:Int} {N N':Nat} {O:List (Bs×zu)} (h:OI m N O) (hN:N<=N'):OI m N' O:=
 ⟨h.d,λq hq=>by have:=h.o q hq;exact⟨this.1,by omega,this.2.2⟩,by have:=h.z;omega⟩
theorem w2o {apps:List zn} (ha:AB apps) (a:Bs):(owA apps a).length<=1000:=by
 unfold owA;split
 ·rename_i x hx;have:=(ha.2 x (List.mem_of_getElem? (qi hx).2)).2;omega
 ·simp
section
variable {c:zw} {apps:List zn} {l:List zj} {u:List zz} (hb:CB c) (ha:AB apps)
include ha
theorem y6u {m:Int} {N:Nat} {O:List (Bs×zu)} (h:OI m N O) (k:zx):OI m (N+1) (xq c apps l u m O k):=w82 h _ (w2o ha _) _ (y84 ..)
theorem x0d {m:Int}:∀ (K:List zx) (N:Nat) (O:List (Bs×zu)),OI m N O->OI m (N+K.length) (K.foldl (xq c apps l u m) O)
 | [],N,O,h=>h
 | k::K,N,O,h=>by
  rw [List.foldl_cons];exact (x0d K (N+1) _ (y6u ha h k)).mono (by simp only [List.length_cons];omega)
include hb
variable (hl:∀ x,x∈l->EB x) (hu:∀ x,x∈u->atB x.Month/\x.App.length<=1000000/\x.Product.length<=1000000) (hul:u.length<=1000000) (h0:eF c apps l=0) (hu0:usF c apps u=0) {m:Int} (hm:0<=m/\m<=132)
include hl hu hul h0 hu0 hm
theorem w9d {E':List (zx×qu)} (hE:∀ a p,aE E' a p=acR c (m*2592000000) a p a00 (cutT ((m+1)*2592000000-1) l)) {U:List (zz×Int)} (hU:Yg u=some U) {N:Nat} {O:List (Bs×zu)} (h:OI m N O) (hN:N<=1000) (k:zx) (hk:k.app_.length<=1000000/\k.product_.length<=1000000) (hA:hasA apps k.app_=true) (hs:(lkG (E'.map λp=>(p.1,vg p.2)) k).isSome=true) :
  z33 c (E'.map λp=>(p.1,vg p.2)) apps U m k O=some (.inl (xq c apps l u m O k)):=by
 have h1:=x5q hb ha hl hu hul h0 hu0 hm hE hU k.app_ k.product_ hk;obtain⟨o,ho⟩:=Option.isSome_iff_exists.1 hs;have ek:zx.mk k.app_ k.product_=k:=rfl;rw [ek,ho] at h1;obtain⟨n,h2,h3⟩:=h1;obtain⟨⟨e1,e2,e3⟩,e4,e5⟩:=z7m h0;unfold z33 xq;rw [if_pos ⟨by omega,by omega⟩,ho];simp only [Option.bind_some];rw [h2];simp only [Option.bind_some];rw [h3];simp only [Option.bind_some]
 by_cases hz:lnF c l u m k.app_ k.product_=[]
 ·rw [hz,if_pos (by rfl)];rfl
 ·rw [if_neg (by simpa using hz)];obtain⟨r,x,r1,r2,r3,r4⟩:=w9s ha (z7s e2) hA;rw [r1];simp only [Option.bind_some];rw [r2];simp only [Option.bind_some];rw [if_pos (by omega),r3];exact w9e _ _ hz (y84 ..) h hN
theorem x62 {E':List (zx×qu)} (hE:∀ a p,aE E' a p=acR c (m*2592000000) a p a00 (cutT ((m+1)*2592000000-1) l)) {U:List (zz×Int)} (hU:Yg u=some U):∀ (K:List zx) (j N:Nat) (O:List (Bs×zu)),OI m N O->N+K.length<=1000->(∀ k,k∈K->(k.app_.length<=1000000/\k.product_.length<=1000000)/\hasA apps k.app_=true/\(lkG (E'.map λp=>(p.1,vg p.2)) k).isSome=true) ->
  forL (λ_ k O=>z33 c (E'.map λp=>(p.1,vg p.2)) apps U m k O) z32 j K O=z32 (K.foldl (xq c apps l u m) O)
 | [],j,N,O,_,_,_=>rfl
 | k::K,j,N,O,h,hN,hk=>by
  simp only [List.length_cons] at hN;obtain⟨k1,k2,k3⟩:=hk k (by simp);show (z33 c _ apps U m k O).bind _=_;rw [w9d hb ha hl hu hul h0 hu0 hm hE hU h (by omega) k k1 k2 k3];exact x62 hE hU K (j+1) (N+1) _ (y6u ha h k) (by omega) λk hk'=>hk k (by simp [hk'])
theorem x60 {a:zn} (hA:a∈apps):∀ (ps:List yl) (j N:Nat) (O:List (Bs×zu)),OI m N O->N+ps.length<=1000 ->
  forL (λ_ p O=>z3z c l u m a p O) some j ps O=some ((ps.map λp=>zx.mk a.Key p.Key).foldl (xq c apps l u m) O)
 | [],j,N,O,_,_=>rfl
 | p::ps,j,N,O,h,hN=>by
  obtain⟨⟨e1,e2,e3⟩,e4,e5⟩:=z7m h0;simp only [List.length_cons] at hN;show (z3z c l u m a p O).bind _=_;have hln:=y84 c l u m a.Key p.Key
  have hst:z3z c l u m a p O=some (.inl (xq c apps l u m O (zx.mk a.Key p.Key))):=by
   unfold z3z;rw [w3l hb ha hl hu hul h0 hu0 hm];simp only [Option.bind_some];rw [if_pos (by omega),x7o a.Owner (by have:=(ha.2 a hA).2;omega) _ 0 O (by have:=h.b a.Owner;omega)];unfold xq;rw [x5a (z7s e2) hA];rfl
  rw [hst];exact x60 hA ps (j+1) (N+1) _ (y6u ha h _) (by omega)
theorem x61 (hP:c.Products.length<=10):∀ (xs:List zn) (j N:Nat) (O:List (Bs×zu)),(∀ a,a∈xs->a∈apps)->OI m N O->N+10*xs.length<=1000 ->
  forL (λ_ a O=>z30 c l u m a O) z1o j xs O=z1o ((xs.flatMap λa=>c.Products.map λp=>zx.mk a.Key p.Key).foldl (xq c apps l u m) O)
 | [],j,N,O,_,_,_=>rfl
 | a::xs,j,N,O,hA,h,hN=>by
  simp only [List.length_cons] at hN;show (z30 c l u m a O).bind _=_
  have hst:z30 c l u m a O=some (.inl ((c.Products.map λp=>zx.mk a.Key p.Key).foldl (xq c apps l u m) O)):=by
   unfold z30;rw [if_pos (by omega),x60 hb ha hl hu hul h0 hu0 hm (hA a (by simp)) c.Products 0 N O h (by omega)];rfl
  rw [hst,List.flatMap_cons,List.foldl_append];exact x61 hP xs (j+1) (N+10) _ (λa ha=>hA a (by simp [ha])) ((x0d ha _ N O h).mono (by simp;omega)) (by omega)
end
noncomputable def outB (O:List (Bs×zu)):List zu:=(Ze (O.map λp=>p.1)).map λo=>(lkG O o).getD zb
theorem x7q {m:Int} {N:Nat} {O:List (Bs×zu)} (h:OI m N O):∀ (os:List Bs) (j:Nat) (out:List zu),(∀ o,o∈os->o∈O.map λp=>p.1)->out.length+os.length<=1000000->forL (λ_ o out=>z7q O o out) some j os out=some (out++os.map λo=>(lkG O o).getD zb)
 | [],j,out,_,_=>by simp [forL]
 | o::os,j,out,ho,hl=>by
  simp only [List.length_cons] at hl;obtain⟨q,q1,q2⟩:=List.mem_map.1 (ho o (by simp));have hk:=y0s h.d q1;have hlen:=(h.o q q1).2.2;rw [q2] at hk hlen;show (z7q O o out).bind _=_;unfold z7q;rw [hk];simp only [Option.bind_some];rw [if_pos ⟨by omega,by omega⟩];simp only [Option.bind_some,after];refine (x7q h os (j+1) (out++[q.2]) (λo hm=>ho o (by simp [hm])) (by simp;omega)).trans ?_;simp [hk]
theorem w71 {m:Int} {N:Nat} {O:List (Bs×zu)} (h:OI m N O) (hO:O.length<=12):z32 O=some (outB O)/\z1o O=some (outB O)/\(outB O).length<=12/\∀ b,b∈outB O->b.Lines.length<=3*N/\∃ q,q∈O/\q.1=b.Owner:=by
 have hn:(O.map λp=>p.1).Nodup:=by unfold List.Nodup;rw [List.pairwise_map];exact h.d
 have hl:(outB O).length=O.length:=by unfold outB;rw [List.length_map,z4t,List.length_map]
 have hmem:∀ b,b∈outB O↔b∈O.map λp=>p.2:=λb=>by
  unfold outB;rw [List.mem_map,List.mem_map];constructor
  ·rintro⟨o,o1,o2⟩;obtain⟨q,q1,q2⟩:=List.mem_map.1 ((z2c _ _).1 o1);have hk:=y0s h.d q1;rw [q2] at hk;rw [hk] at o2;exact⟨q,q1,o2⟩
  ·rintro⟨q,q1,q2⟩;refine⟨q.1,(z2c _ _).2 (List.mem_map.2 ⟨q,q1,rfl⟩),?_⟩;rw [y0s h.d q1];exact q2
 refine⟨?_,?_,by omega,λb hb=>?_⟩
 ·unfold z32;rw [if_pos (by omega),x3u (by rw [List.length_map];omega)];simp only [Option.bind_some];rw [if_pos (by rw [z4t,List.length_map];omega),x7q h _ 0 [] (λo ho=>(z2c _ _).1 ho) (by rw [z4t,List.length_map,List.length_nil];omega)];rfl
 ·unfold z1o;rw [if_pos (by omega)];refine w04 (by rw [List.length_map];exact hO) ?_ ?_ hmem
  ·rw [List.map_map];have:O.map ((λb:zu=>b.Owner) ∘ λp=>p.2)=O.map λp=>p.1:=List.map_congr_left λq hq=>(h.o q hq).1.1;rw [this];exact hn
  ·unfold kr outB;rw [List.pairwise_map];refine (y6z hn).imp_of_mem λ{x y} hx hy hxy=>?_
   have own:∀ x,x∈Ze (O.map λp=>p.1)->((lkG O x).getD zb).Owner=x:=λx hx=>by
    obtain⟨q,q1,q2⟩:=List.mem_map.1 ((z2c _ _).1 hx);have hk:=y0s h.d q1;rw [q2] at hk;rw [hk];exact (h.o q q1).1.1.trans q2
   rw [own x hx,own y hy];exact hxy
 ·obtain⟨q,q1,q2⟩:=List.mem_map.1 ((hmem b).1 hb);rw [← q2];exact⟨(h.o q q1).2.1,q,q1,(h.o q q1).1.1.symm⟩
section
variable {c:zw} {apps:List zn} {l:List zj} {u:List zz} (hb:CB c) (ha:AB apps) (hl:∀ x,x∈l->EB x) (hu:∀ x,x∈u->atB x.Month/\x.App.length<=1000000/\x.Product.length<=1000000) (hul:u.length<=1000000) (h0:eF c apps l=0) (hu0:usF c apps u=0) {m:Int} (hm:0<=m/\m<=132)
include hb ha hl hu hul h0 hu0 hm
theorem w86 (hA:apps.length<=4) (hP:c.Products.length<=10) (hL:l.length<=12) {U:List (zz×Int)} (hU:Yg u=some U) :
  ∃ B,z5q c apps l U m=some B/\z23 c apps l u m=some B/\B.length<=12/\∀ b,b∈B->b.Lines.length<=36/\hasO apps b.Owner=true:=by
 obtain⟨⟨e1,e2,e3⟩,e4,e5⟩:=z7m h0;obtain⟨E',q1,q2,q3,q4⟩:=w9x (apps:=apps) hb e1 hm l (λx hx=>⟨e4 x hx,hl x hx⟩) (by omega);obtain⟨⟨rp,_⟩,_⟩:=Wy e1;have hrise:=w9t (z7s e2) rp;generalize hall:(E'.map λp=>(p.1,vg p.2))=all at q1;have hkeys:all.map (λp=>p.1)=E'.map λp=>p.1:=by rw [← hall,List.map_map];rfl
 have hd:all.Pairwise λp q=>p.1≠q.1:=by rw [← hall,List.pairwise_map];exact q3.d
 have hn:(all.map λp=>p.1).Nodup:=by unfold List.Nodup;rw [List.pairwise_map];exact hd
 have hKk:∀ k,k∈all.map (λp=>p.1)->∃ x,EOk c apps x/\EB x/\k=zx.mk x.App x.Product:=λk hk=>by
  rw [hkeys] at hk;obtain⟨q,k1,k2⟩:=List.mem_map.1 hk;obtain⟨x,x1,x2,x3⟩:=q3.k q k1;exact⟨x,x1,x2,k2.symm.trans x3⟩
 have hmem:∀ x,x∈(allK c apps).filter (λk=>(lkG all k).isSome)↔x∈all.map λp=>p.1:=λk=>by
  rw [List.mem_filter];constructor
  ·rintro⟨_,h⟩;obtain⟨o,ho⟩:=Option.isSome_iff_exists.1 h;exact List.mem_map.2 ⟨_,z9d ho,rfl⟩
  ·intro h;obtain⟨x,x1,x2,x3⟩:=hKk k h;refine⟨by rw [x3];exact w9u x1.a x1.p,?_⟩;obtain⟨q,k1,k2⟩:=List.mem_map.1 h;have:=y0s hd k1;rw [k2] at this;rw [this];rfl
 have hKr:y50 ((allK c apps).filter λk=>(lkG all k).isSome):=hrise.sublist List.filter_sublist;have hKn:((allK c apps).filter λk=>(lkG all k).isSome).Nodup:=hKr.imp λh e=>by subst e;exact x06 _ h
 have hKl:((allK c apps).filter λk=>(lkG all k).isSome).length<=12:=by
  have:=((List.perm_ext_iff_of_nodup hKn hn).2 hmem).length_eq;rw [this,hkeys,List.length_map];omega
 have hsame:(allK c apps).foldl (xq c apps l u m) []=((allK c apps).filter λk=>(lkG all k).isSome).foldl (xq c apps l u m) []:=by
  refine x0c _ _ _ _ λk hk hq O=>?_
  have hlen:k.app_.length<=1000000/\k.product_.length<=1000000:=by
   obtain⟨a,a1,a2⟩:=List.mem_flatMap.1 hk;obtain⟨p,p1,p2⟩:=List.mem_map.1 a2;have h1:=(ha.2 a a1).1;have h2:=(hb.kp p p1).1;rw [← p2];exact⟨by simp only;omega,by simp only;omega⟩
  have h1:=x5q hb ha hl hu hul h0 hu0 hm q2 hU k.app_ k.product_ hlen;have ek:zx.mk k.app_ k.product_=k:=rfl;rw [hall,ek] at h1
  cases ho:lkG all k with
  | some o=>rw [ho] at hq;cases hq
  | none =>
   rw [ho] at h1;have h1:lnF c l u m k.app_ k.product_=[]:=h1;unfold xq bsC;rw [if_pos h1]
 have hoi:OI m 0 []:=⟨by simp,by simp,by simp⟩
 have hO:=x0d (c:=c) (l:=l) (u:=u) ha ((allK c apps).filter λk=>(lkG all k).isSome) 0 [] hoi;rw [Nat.zero_add] at hO;obtain⟨f1,f2,f3,f4⟩:=w71 hO (by have:=hO.z;omega);refine⟨_,?_,?_,f3,λb hb=>?_⟩
 rotate_left 2
 ·obtain⟨g1,q,g2,g3⟩:=f4 b hb;refine⟨by omega,?_⟩;rcases x64 _ _ q g2 with ⟨q0,h1,_⟩|⟨k,h1,h2⟩
  ·cases h1
  ·obtain⟨a,a1,a2⟩:=List.mem_flatMap.1 (List.mem_filter.1 h1).1;obtain⟨p,p1,p2⟩:=List.mem_map.1 a2;rw [← g3,h2,← p2];exact List.any_eq_true.2 ⟨a,a1,by simpa using (x5a (z7s e2) a1).symm⟩
 ·unfold z5q;rw [q1];simp only [Option.bind_some];have hal:all.length<=12:=by rw [← hall,List.length_map];omega
  rw [if_pos (by omega),w05 (by rw [List.length_map];exact hal) hn hKr hmem];simp only [Option.bind_some];rw [if_pos (by omega),← f1,← hall];refine x62 hb ha hl hu hul h0 hu0 hm q2 hU _ 0 0 [] hoi (by rw [hall];omega) λk hk=>?_;rw [hall] at hk ⊢;obtain⟨x,x1,x2,x3⟩:=hKk k ((hmem k).1 hk);have hk2:=(List.mem_filter.1 hk).2;subst x3;exact⟨⟨x2.a,x2.p⟩,x1.a,hk2⟩
 ·unfold z23;rw [if_pos (by omega),x61 hb ha hl hu hul h0 hu0 hm hP apps 0 0 [] (λ_ h=>h) hoi (by omega)];show z1o ((allK c apps).foldl _ [])=_;rw [hsame];exact f2
end
def UG (x:zz):Prop:=atB x.Month/\x.App.length<=1000000/\x.Product.length<=1000000
theorem w1x {k:Int} {s:zq} (h:SB k s) (hk:k<=10000) {apps:List zn} (ha:apps.length<=4/\∀ x,x∈apps->x.Key.length<=100/\x.Owner.length<=100):Ok (y0e s apps) λr=>(r.1.length<=24/\∀ x,x∈r.1->UG x)/\SB (k+48) r.2:=by
 unfold y0e;refine ok_g (by omega) (z5f (I:=λj (q:(List Int)×Int×(List zz))=>SB (k+16*(j:Int)) ⟨q.1,q.2.1⟩/\q.2.2.length<=8*j/\∀ x,x∈q.2.2->UG x) _ _ _ ⟨by simpa using h,by simp,by simp⟩ ?_ ?_)
 ·rintro j ⟨c3,c4,l5⟩ _ hj ⟨i1,i2,i3⟩;simp only at i1 i2 i3;unfold y41;refine ok_g (by omega) (z5g (I:=λt (q:(List Int)×Int×(List zz))=>SB (k+16*(j:Int)+4*(t:Int)) ⟨q.1,q.2.1⟩/\q.2.2.length<=8*j+2*t/\∀ x,x∈q.2.2->UG x) apps 0 _ ⟨by simpa using i1,by simpa using i2,i3⟩ ?_ ?_)
  ·rintro t x ⟨c10,c11,l12⟩ _ hx ⟨j1,j2,j3⟩;simp only at j1 j2 j3;have hx':apps[t]?=some x:=by simpa using hx
   have htl:=ji hx';have hxk:=ha.2 x (List.mem_of_getElem? hx');unfold y40;refine ok_g (by simp) (z5g (I:=λw (q:(List Int)×Int×(List zz))=>SB (k+16*(j:Int)+4*(t:Int)+2*(w:Int)) ⟨q.1,q.2.1⟩/\q.2.2.length<=8*j+2*t+w/\∀ x,x∈q.2.2->UG x) _ 0 _ ⟨by simpa using j1,by simpa using j2,j3⟩ ?_ ?_)
   ·rintro w y ⟨c19,c20,l21⟩ _ hy ⟨w1,w2,w3⟩;simp only at w1 w2 w3;have hwl:w < 2:=by have:=ji hy;simpa using this
    have hyl:y.length<=100:=by
     have:y∈([[109,97,112,115],[115,104,111,112]]:List Bs):=List.mem_of_getElem? hy;simp only [List.mem_cons,List.not_mem_nil,or_false] at this;rcases this with rfl|rfl <;> simp
    unfold y4z z66;refine ym (xi w1 (by omega) _ (by omega)) λr28 h28=>wv (λ_=>?_) (λ_=>?_)
    ·refine ym (kw h28 (by omega) _ ⟨by simp,by simp⟩) λr31 h31=>ok_g (show l21.length+1<=1000000000 by omega) (qt ⟨h31.2.mono (by omega),by simp;omega,λz hz=>?_⟩);rcases List.mem_append.1 hz with hz|hz
     ·exact w3 z hz
     ·simp only [List.mem_cons,List.not_mem_nil,or_false] at hz;rw [hz];exact⟨⟨by simp only;omega,by simp only;omega⟩,by simp only;omega,by simp only;omega⟩
    ·exact qt ⟨h28.mono (by omega),by simp;omega,w3⟩
   ·rintro⟨c19,c20,l21⟩ ⟨w1,w2,w3⟩;simp only [List.length_cons,List.length_nil] at w1 w2 w3;exact qt ⟨w1.mono (by omega),by simp;omega,w3⟩
  ·rintro⟨c10,c11,l12⟩ ⟨j1,j2,j3⟩;simp only at j1 j2 j3;have:=ha.1;exact qt ⟨j1.mono (by omega),by simp;omega,j3⟩
 ·rintro⟨c3,c4,l5⟩ ⟨i1,i2,i3⟩;simp only at i1 i2 i3;exact qt ⟨⟨by simp;omega,i3⟩,i1.mono (by omega)⟩
theorem x8p {k:Int} {s:zq} (h:SB k s) (hk:k<=10000) {apps:List zn} (ha:apps.length<=4/\∀ x,x∈apps->x.Key.length<=100/\x.Owner.length<=100):Ok (y0b s apps) λr=>(r.1.length<=24/\∀ x,x∈r.1->UG x)/\SB (k+60) r.2:=by
 unfold y0b;refine ym (w1x h hk ha) λr3 h3=>?_
 have J:∀ v (s':zq),(v=true->0 < r3.1.length)->SB (k+49) s'->Ok (z3r r3 v s'.L s'.at_) λr=>(r.1.length<=24/\∀ x,x∈r.1->UG x)/\SB (k+60) r.2:=λv s' hv hs'=>by
  unfold z3r z64;refine wv (λhvv=>?_) (λ_=>qt ⟨h3.1,hs'.mono (by omega)⟩);have h0:=hv hvv;refine ym (Ys hs' (by omega) _ (by have:=h3.1.1;omega)) λr14 h14=>?_;have b1:=h14.1.1;have b2:=h14.1.2.1 (by omega);obtain⟨x,x1,x2,x3⟩:=Qr r3.1 r14.1 ⟨b1,b2⟩;rw [x1];simp only [Option.bind_some];refine ym (kj h14.2 (by omega) _ ⟨by simp,by simp⟩) λr18 h18=>ym (Ye h18.2 (by omega) _ _ (by omega)) λr20 h20=>ym (Ye h20.2 (by omega) _ _ (by omega)) λr22 h22=>?_;have hxG:=h3.1.2 x x2
  have h18l:r18.1.length<=1000000:=by
   have:=h18.1;simp only [List.mem_cons,List.not_mem_nil,or_false] at this;rcases this with h|h
   ·rw [h];exact hxG.2.1
   ·rw [h];simp
  refine qt ⟨⟨by simp only [List.length_set];exact h3.1.1,λz hz=>?_⟩,h22.2.mono (by omega)⟩;have hnew:∀ m:Int,atB m->∀ cl,UG (zz.mk r18.1 x.Product m cl):=λm hm cl=>⟨hm,h18l,hxG.2.2⟩
  have hm20:atB r20.1:=⟨by have:=h20.1;omega,by have:=h20.1;omega⟩
  rcases List.mem_or_eq_of_mem_set hz with hz|rfl
  ·rcases List.mem_or_eq_of_mem_set hz with hz|rfl
   ·rcases List.mem_or_eq_of_mem_set hz with hz|rfl
    ·exact h3.1.2 z hz
    ·exact hnew _ hxG.1 _
   ·exact hnew _ hm20 _
  ·exact hnew _ hm20 _
 refine wv (λhp=>ym (xi h3.2 (by omega) _ (by omega)) λr7 h7=>J _ _ (λ_=>by simpa using hp) (h7.mono (by omega))) (λ_=>J false r3.2 (by simp) (h3.2.mono (by omega)))
theorem w65 (apps:List zn) (o:Bs) (h:apps.length<=1000000):z03 apps (λ(a0:zn)=>some (decide (a0.Owner=o)))=some (hasO apps o):=x6w apps (p:=λ(a0:zn)=>some (decide (a0.Owner=o))) (λx=>decide (x.Owner=o)) (by omega) λx _=>rfl
theorem y4j (apps:List zn) (o:Bs) (h:apps.length<=1000000):z5p apps o=some (hasO apps o):=by
 unfold z5p;have e:z03 apps (λ(a0:zn)=>z5o a0 o)=some (hasO apps o):=x6w apps (p:=λ(a0:zn)=>z5o a0 o) (λx=>decide (x.Owner=o)) (by omega) λx _=>rfl;rw [e];rfl
theorem w64 (apps:List zn) (o:Bs) (h:apps.length<=1000000):y38 apps o=some (hasO apps o):=y4j apps o h
def y0u (l:List qc) (k:Nat) (x:qc):Bool:=decide (0 < k) && match l[k-1]? with|some y=>decide (x.At < y.At)|none=>false
def py1 (apps:List zn) (l:List qc) (k:Nat) (x:qc):Int:=
 if momP x.At=false then 1 else if hasO apps x.Owner=false then 8 else if outP x.Cents (-1000000000000) 1000000000000=true then 1 else if y0u l k x=true then 7 else 0
def pyF (apps:List zn) (l:List qc):Int:=if apF apps≠0 then apF apps else if 3000 < l.length then 2 else feI (py1 apps l) 0 l
theorem x4o (apps:List zn) (l:List qc) (ha:apps.length<=1000000) (k:Nat) (x:qc) (hx:l[k]?=some x):z5b apps l k x=if py1 apps l k x≠0 then some (.inr (py1 apps l k x)) else some (.inl ()):=by
 have hJ:(if decide (0 < (k:Int)) then ((at? l ((k:Int)-1)).bind λ(x24:qc)=>Wi (decide (x.At < x24.At))) else (Wi false))=Wi (y0u l k x):=by
  by_cases h0:0 < k
  ·obtain⟨y,hy⟩:∃ y,l[k-1]?=some y:=⟨_,List.getElem?_eq_getElem (by have:=ji hx;omega)⟩
   have e1:at? l ((k:Int)-1)=some y:=by rw [z0a h0];exact hy
   rw [if_pos (by simpa using h0),e1];unfold y0u;simp [h0,hy]
  ·rw [if_neg (by simpa using h0)];unfold y0u;simp [h0]
 unfold z5b;rw [hJ];unfold Wi;simp only [y4i,y4j apps x.Owner ha,z0z,Option.bind_some];unfold py1;rcases Bool.eq_false_or_eq_true (momP x.At) with b1|b1 <;> rcases Bool.eq_false_or_eq_true (hasO apps x.Owner) with b2|b2 <;> rcases Bool.eq_false_or_eq_true (outP x.Cents (-1000000000000) 1000000000000) with b3|b3 <;> rcases Bool.eq_false_or_eq_true (y0u l k x) with b4|b4 <;> simp [b1,b2,b3,b4]
theorem w15 (apps:List zn) (l:List qc) (ha:apps.length<=1000000) (k:Nat) (x:qc) (hx:l[k]?=some x):y09 apps l k x=if py1 apps l k x≠0 then some (.inr (py1 apps l k x)) else some (.inl ()):=by
 rw [← x4o apps l ha k x hx];unfold y09 z5b;rw [y8p,y4i,w64 apps x.Owner ha,y4j apps x.Owner ha,Qm,z0z];simp only [Option.bind_some];cases outP x.Cents (-1000000000000) 1000000000000 <;> rfl
theorem x41 (apps:List zn) (l:List qc) (hb:AB apps) (hl:l.length<=1000000):z5s apps l=some (pyF apps l):=by
 unfold z5s pyF;rw [x03 apps hb];simp only [Option.bind_some]
 by_cases h1:apF apps=0
 ·rw [if_neg (by simpa using h1),if_neg (not_not_intro h1)]
  by_cases h2:3000 < l.length
  ·rw [if_pos (by simp;omega),if_pos h2]
  ·rw [if_neg (by simp;omega),if_neg h2,if_pos (by omega)];exact z3x rfl l 0 λj x _ hx=>x4o apps l (by have:=hb.1;omega) j x (by simpa using hx)
 ·rw [if_pos (by simpa using h1),if_pos h1]
theorem w2h (apps:List zn) (l:List qc) (hb:AB apps) (hl:l.length<=1000000):z99 apps l=some (pyF apps l):=by
 unfold z99 pyF;rw [x1l apps hb];simp only [Option.bind_some]
 by_cases h1:apF apps=0
 ·rw [if_neg (by simpa using h1),if_neg (not_not_intro h1)]
  by_cases h2:3000 < l.length
  ·rw [if_pos (by simp;omega),if_pos h2]
  ·rw [if_neg (by simp;omega),if_neg h2,if_pos (by omega)];exact z3x rfl l 0 λj x _ hx=>w15 apps l (by have:=hb.1;omega) j x (by simpa using hx)
 ·rw [if_pos (by simpa using h1),if_pos h1]
theorem w16 {apps:List zn} {l:List qc} (h:pyF apps l=0):∀ x,x∈l->hasO apps x.Owner=true:=by
 intro x hx;obtain⟨k,hk⟩:=List.getElem?_of_mem hx;unfold pyF at h
 by_cases h1:apF apps=0
 ·rw [if_neg (not_not_intro h1)] at h
  by_cases h2:3000 < l.length
  ·rw [if_pos h2] at h;omega
  ·rw [if_neg h2] at h;have:=z7j l 0 h k x hk;rw [Nat.zero_add] at this;unfold py1 at this;cases ho:hasO apps x.Owner
   ·rw [ho] at this;simp only [if_true] at this;split at this <;> omega
   ·rfl
 ·rw [if_pos h1] at h;exact absurd h h1
noncomputable def valM (M:List (Bs×Int)) (o:Bs):Int:=(lkG M o).getD 0
theorem x2g (M:List (Bs×Int)) (k:Bs) (v:Int) (o:Bs):valM (ptG M k v) o=if k=o then v else valM M o:=by
 unfold valM;rw [z29];split <;> rfl
def selB (o:Bs) (n:Int) (b:zu):Int:=if b.Owner=o then wr (n+b.Cents) else n
def selP (o:Bs) (v:Int) (n:Int) (p:qc):Int:=if p.Owner=o/\p.At<=v then wr (n-p.Cents) else n
structure MI (apps:List zn) (N:Nat) (M:List (Bs×Int)):Prop where
 d:M.Pairwise λp q=>p.1≠q.1
 o:∀ q,q∈M->hasO apps q.1=true
 z:M.length<=N
theorem x5k {apps:List zn} {N:Nat} {M:List (Bs×Int)} (h:MI apps N M) (k:Bs) (v:Int) (hk:hasO apps k=true):MI apps (N+1) (ptG M k v):=
 ⟨y24 _ _ h.d,λq hq=>by
  rcases z4v M _ _ q hq with rfl|h1|h1
  ·exact hk
  ·exact h.o q h1.1
  ·exact h.o q h1,by have:=y74 M k v;have:=h.z;omega⟩
theorem MI.mono {apps:List zn} {N N':Nat} {M:List (Bs×Int)} (h:MI apps N M) (hN:N<=N'):MI apps N' M:=⟨h.d,h.o,by have:=h.z;omega⟩
theorem y9t {apps:List zn} (ha:AB apps) {o:Bs} (h:hasO apps o=true):o.length<=100:=by
 obtain⟨x,x1,x2⟩:=List.any_eq_true.1 h;have x2:x.Owner=o:=by simpa using x2
 rw [← x2];exact (ha.2 x x1).2
theorem x48 {apps:List zn} (ha:AB apps) (m:Int):∀ (B:List zu) (k N:Nat) (M:List (Bs×Int)),(∀ b,b∈B->hasO apps b.Owner=true)->MI apps N M ->
  ∃ M',forL (λ(k:Nat) (x:zu) (s:List (Bs×Int))=>z43 k x s) (λ(s:List (Bs×Int))=>y3b m s) k B M=some (.inl (wr (m+1),M'))/\(∀ o,valM M' o=B.foldl (selB o) (valM M o))/\MI apps (N+B.length) M'
 | [],k,N,M,_,h=>⟨M,rfl,λ_=>rfl,h⟩
 | b::B,k,N,M,hb,h=>by
  have hbo:=hb b (by simp);have hlen:=y9t ha hbo;show ∃ M',(z43 k b M).bind _=_/\_;unfold z43;rw [if_pos (by omega),if_pos (by omega)];obtain⟨M',h1,h2,h3⟩:=x48 ha m B (k+1) (N+1) _ (λb hb'=>hb b (by simp [hb'])) (x5k h b.Owner (wr ((lkG M b.Owner).getD 0+b.Cents)) hbo);refine⟨M',h1,λo=>?_,h3.mono (by simp;omega)⟩;rw [h2,x2g,List.foldl_cons];congr 1;unfold selB;split
  ·rename_i e;rw [e];rfl
  ·rfl
theorem y8j {apps:List zn} (ha:AB apps) (v:Int):∀ (P:List qc) (k N:Nat) (M:List (Bs×Int)),(∀ p,p∈P->hasO apps p.Owner=true)->MI apps N M ->
  ∃ M',forL (λ(k:Nat) (x:qc) (s:List (Bs×Int))=>z42 v k x s) (λ(s:List (Bs×Int))=>y3a s) k P M=some M'/\(∀ o,valM M' o=P.foldl (selP o v) (valM M o))/\MI apps (N+P.length) M'
 | [],k,N,M,_,h=>⟨M,rfl,λ_=>rfl,h⟩
 | p::P,k,N,M,hp,h=>by
  have hpo:=hp p (by simp);have hlen:=y9t ha hpo;have hp':∀ q,q∈P->hasO apps q.Owner=true:=λq hq=>hp q (by simp [hq]);show ∃ M',(z42 v k p M).bind _=_/\_;unfold z42 z44
  by_cases hv:p.At<=v
  ·rw [if_pos (by simpa using hv),if_pos (by omega),if_pos (by omega)];obtain⟨M',h1,h2,h3⟩:=y8j ha v P (k+1) (N+1) _ hp' (x5k h p.Owner (wr ((lkG M p.Owner).getD 0-p.Cents)) hpo);refine⟨M',h1,λo=>?_,h3.mono (by simp;omega)⟩;rw [h2,x2g,List.foldl_cons];congr 1;unfold selP
   by_cases e:p.Owner=o
   ·rw [if_pos e,if_pos ⟨e,hv⟩,← e];rfl
   ·rw [if_neg e,if_neg (λh=>e h.1)]
  ·rw [if_neg (by simpa using hv)];obtain⟨M',h1,h2,h3⟩:=y8j ha v P (k+1) N M hp' h;refine⟨M',h1,λo=>?_,h3.mono (by simp only [List.length_cons];omega)⟩;rw [h2,List.foldl_cons];congr 1;unfold selP;rw [if_neg (λh=>hv h.2)]
theorem refB (o:Bs) (m:Int):∀ (B:List zu) (k:Nat) (n:Int),forL (λ(k:Nat) (x:zu) (s:Int)=>z6t o k x s) (λ(s:Int)=>y4t m s) k B n=some (.inl (B.foldl (selB o) n,wr (m+1)))
 | [],k,n=>rfl
 | b::B,k,n=>by
  show (z6t o k b n).bind _=_;unfold z6t z6v;rw [List.foldl_cons];unfold selB
  by_cases e:b.Owner=o
  ·rw [if_pos (by simpa using e),if_pos e];exact refB o m B (k+1) _
  ·rw [if_neg (by simpa using e),if_neg e];exact refB o m B (k+1) _
theorem refP (o:Bs) (v:Int):∀ (P:List qc) (k:Nat) (n:Int),forL (λ(k:Nat) (x:qc) (s:Int)=>z6s o v k x s) (λ(s:Int)=>y4s s) k P n=some (P.foldl (selP o v) n)
 | [],k,n=>rfl
 | p::P,k,n=>by
  show (z6s o v k p n).bind _=_;unfold z6s z6u;rw [List.foldl_cons];unfold selP
  by_cases e:p.Owner=o/\p.At<=v
  ·rw [if_pos (by simpa using e),if_pos e];exact refP o v P (k+1) _
  ·rw [if_neg (by simpa using e),if_neg e];exact refP o v P (k+1) _
def endM (w v m:Int):Bool:=decide (m<=132) && decide ((m+1)*2592000000+w<=v)
noncomputable def runM (BM:Int->List zu) (w v:Int) (o:Bs):Nat->Int->Int->Int
 | 0,_,n=>n
 | k+1,m,n=>if endM w v m=true then runM BM w v o k (m+1) ((BM m).foldl (selB o) n) else n
section
variable {c:zw} {apps:List zn} {l:List zj} {u:List zz} {P:List qc} (ha:AB apps) {U:List (zz×Int)} {BM:Int->List zu}
 (hBM:∀ m,0<=m/\m<=132->z5q c apps l U m=some (BM m)/\z23 c apps l u m=some (BM m)/\(BM m).length<=12/\∀ b,b∈BM m->hasO apps b.Owner=true)
 (hP:∀ p,p∈P->hasO apps p.Owner=true) (hPl:P.length<=1000) {w v:Int} (hw:0<=w/\w<=400000000000) (hv:0<=v/\v<=400000000000)
include ha hBM hP hPl hw hv
omit hBM hP hPl ha in
theorem x0v {m:Int} (hm:0<=m/\m<=133):((decide (m<=132)) && (decide ((wr ((wr ((wr (m+1))*2592000000))+w))<=v)))=endM w v m:=by
 have e1:wr (m+1)=m+1:=wb (by omega);have e2:wr ((m+1)*2592000000)=(m+1)*2592000000:=wb (by omega);have e3:wr ((m+1)*2592000000+w)=(m+1)*2592000000+w:=wb (by omega);rw [e1,e2,e3];rfl
omit hBM hP hPl ha in
theorem x0u {m:Int} (hm:0<=m/\m<=133):((decide (m<=132)) && (decide ((wr ((wr (m+1))*2592000000))<=v-w)))=endM w v m:=by
 have e1:wr (m+1)=m+1:=wb (by omega);have e2:wr ((m+1)*2592000000)=(m+1)*2592000000:=wb (by omega);rw [e1,e2];unfold endM;congr 1
 by_cases h:(m+1)*2592000000+w<=v
 ·rw [decide_eq_true h,decide_eq_true (by omega)]
 ·rw [decide_eq_false h,decide_eq_false (by omega)]
omit hBM hw hv in
theorem x47 (N:Nat) (M:List (Bs×Int)) (h:MI apps N M):∃ M',z45 P v M=some M'/\(∀ o,valM M' o=P.foldl (selP o v) (valM M o))/\MI apps (N+1000) M':=by
 obtain⟨M',h1,h2,h3⟩:=y8j ha v P 0 N M hP h;refine⟨M',?_,h2,h3.mono (by omega)⟩;unfold z45;rw [if_pos (by omega)];exact h1
theorem x46:∀ (k N:Nat) (m:Int) (M:List (Bs×Int)),0<=m->m+(k:Int)=133->MI apps N M ->
  ∃ M',iter (λ(s:Int×List (Bs×Int))=>z0y c apps l P w v U s.1 s.2) (m,M)=some M'/\(∀ o,valM M' o=P.foldl (selP o v) (runM BM w v o k m (valM M o)))/\MI apps (N+12*k+1000) M'
 | 0,N,m,M,h0,hk,h=>by
  obtain⟨M',e1,e2,e3⟩:=x47 ha hP hPl (v:=v) N M h;refine⟨M',ko ?_,e2,e3.mono (by omega)⟩;unfold z0y;rw [x0v hw hv ⟨h0,by omega⟩,if_neg (by unfold endM;simp;omega),e1];rfl
 | k+1,N,m,M,h0,hk,h=>by
  cases hc:endM w v m
  ·obtain⟨M',e1,e2,e3⟩:=x47 ha hP hPl (v:=v) N M h;refine⟨M',ko ?_,λo=>?_,e3.mono (by omega)⟩
   ·unfold z0y;rw [x0v hw hv ⟨h0,by omega⟩,hc,if_neg (by simp),e1];rfl
   ·rw [e2,runM,hc,if_neg (by simp)]
  ·obtain⟨b1,b2,b3,b4⟩:=hBM m ⟨h0,by omega⟩;obtain⟨M1,f1,f2,f3⟩:=x48 ha m (BM m) 0 N M b4 h;have ew:wr (m+1)=m+1:=wb (by omega);rw [ew] at f1;obtain⟨M',g1,g2,g3⟩:=x46 k (N+12) (m+1) M1 (by omega) (by omega) (f3.mono (by omega));refine⟨M',(z1b (s':=(m+1,M1)) ?_).trans g1,λo=>?_,g3.mono (by omega)⟩
   ·show z0y c apps l P w v U m M=_;unfold z0y;rw [x0v hw hv ⟨h0,by omega⟩,hc,if_pos rfl,b1];simp only [Option.bind_some];rw [if_pos (by omega)];exact f1
   ·rw [g2,f2,runM,hc,if_pos rfl]
theorem x4l (o:Bs):∀ (k:Nat) (m n:Int),0<=m->m+(k:Int)=133->iter (λ(s:Int×Int)=>z1d c apps l u P o (v-w) v s.1 s.2) (n,m)=some (P.foldl (selP o v) (runM BM w v o k m n))
 | 0,m,n,h0,hk=>by
  refine ko ?_;unfold z1d z6w;rw [x0u hw hv ⟨h0,by omega⟩,if_neg (by unfold endM;simp;omega),if_pos (by omega),refP];rfl
 | k+1,m,n,h0,hk=>by
  cases hc:endM w v m
  ·refine ko ?_;unfold z1d z6w;rw [x0u hw hv ⟨h0,by omega⟩,hc,if_neg (by simp),if_pos (by omega),refP,runM,hc,if_neg (by simp)];rfl
  ·obtain⟨b1,b2,b3,b4⟩:=hBM m ⟨h0,by omega⟩;have ew:wr (m+1)=m+1:=wb (by omega);rw [runM,hc,if_pos rfl];refine (z1b (s':=((BM m).foldl (selB o) n,m+1)) ?_).trans (x4l o k (m+1) _ (by omega) (by omega));show z1d c apps l u P o (v-w) v n m=_;unfold z1d;rw [x0u hw hv ⟨h0,by omega⟩,hc,if_pos rfl,b2];simp only [Option.bind_some];rw [if_pos (by omega),refB,ew]
theorem w2n (hU:Yg u=some U):∃ M,z2t c apps l u P w v=some M/\(∀ o,Qj c apps l u P o (v-w) v=some (valM M o))/\MI apps 3000 M:=by
 obtain⟨M,h1,h2,h3⟩:=x46 ha hBM hP hPl hw hv 133 0 0 [] (by omega) (by omega) ⟨by simp,by simp,by simp⟩;refine⟨M,?_,λo=>?_,h3.mono (by omega)⟩
 ·unfold z2t;rw [hU];exact h1
 ·unfold Qj;rw [x4l ha hBM hP hPl hw hv o 133 0 0 (by omega) (by omega),h2];rfl
end
theorem w2g {k:Int} {s:zq} (h:SB k s) (hk:k<=10000):Ok (y0g s) λr=>r.1.length<=4/\SB (k+40) r.2:=by
 unfold y0g;refine ym (z86 h (by omega) _ _ (by omega)) λr2 h2=>ok_g (by omega) (z5f (I:=λj (q:Int×(List Int)×Int×(List qc))=>SB (k+1+4*(j:Int)) ⟨q.2.1,q.2.2.1⟩/\q.2.2.2.length<=j) _ _ _ ⟨by simpa using h2.2,by simp⟩ ?_ ?_)
 ·rintro j ⟨v4,c5,c6,l7⟩ _ hj ⟨i1,i2⟩;simp only at i1 i2;unfold y42;refine ym (kw i1 (by omega) _ ⟨by simp,by simp⟩) λr34 h34=>ym (kj h34.2 (by omega) _ ⟨by simp,by simp⟩) λr36 h36=>ym (kw h36.2 (by omega) _ ⟨by simp,by simp⟩) λr38 h38=>ok_g (by simp only;omega) (qt ⟨h38.2.mono (by omega),by simp;omega⟩)
 ·rintro⟨v4,c5,c6,l7⟩ ⟨i1,i2⟩;simp only at i1 i2;have hn:l7.length<=4:=by omega
  unfold y43
  have J:∀ v (s':zq),(v=true->0 < l7.length)->SB (k+20) s'->Ok (z3t l7 v s'.L s'.at_) λr=>r.1.length<=4/\SB (k+40) r.2:=λv s' hv hs'=>by
   unfold z3t z7c;refine wv (λhvv=>?_) (λ_=>qt ⟨hn,hs'.mono (by omega)⟩);have h0:=hv hvv;refine ym (Ys hs' (by omega) _ (by omega)) λr20 h20=>?_;have b1:=h20.1.1;have b2:=h20.1.2.1 (by omega);obtain⟨x,x1,x2,x3⟩:=Qr l7 r20.1 ⟨b1,b2⟩;rw [x1];simp only [Option.bind_some];exact ym (Ye h20.2 (by omega) _ _ (by omega)) λr24 h24=>ym (kj h24.2 (by omega) _ ⟨by simp,by simp⟩) λr26 h26=>ym (Ye h26.2 (by omega) _ _ (by omega)) λr28 h28=>qt ⟨by simpa using hn,h28.2.mono (by omega)⟩
  refine wv (λhp=>ym (xi i1 (by omega) _ (by omega)) λr13 h13=>J _ _ (λ_=>by simpa using hp) (h13.mono (by omega))) (λ_=>J false ⟨c5,c6⟩ (by simp) (i1.mono (by omega)))
theorem w8l (l:List Bs) (v:Bs) (h:l.length<=1000000):z9p l v=some (decide (v∈l)):=by
 unfold z9p;have e:y3w l v=some (fdx (λx=>decide (v=x)) 0 l):=y1d l (p:=λx=>some (decide (v=x))) (λx=>decide (v=x)) (by omega) λ_ _=>rfl;rw [e];simp only [Option.bind_some,y5f];congr 1
 by_cases hm:v∈l
 ·rw [decide_eq_true hm];exact List.any_eq_true.2 ⟨v,hm,by simp⟩
 ·rw [decide_eq_false hm];refine List.any_eq_false.2 λx hx=>?_;have:¬ v=x:=λe=>hm (e ▸ hx);simpa using this
theorem w8b (a:List Bs) (h:a.length<=1000000000):y3z a a=some true:=w7j (λ(x y:Bs)=>decide (x≠y)) (λx=>by simp) a h
section
variable {c:zw} {apps:List zn} {l:List zj} {u:List zz} {P:List qc} {w v:Int} {val:Bs->Int}
theorem ovR (days:Int) (hO:∀ o,Qj c apps l u P o (wr (v-(wr (days*86400000)))) v=some (val o)):∀ (xs:List zn) (k:Nat) (out:List Bs),out.Nodup->out.length+xs.length<=1000000 ->
  ∃ out':List Bs,forL (λ(k:Nat) (x:zn) (s:List Bs)=>z3o c apps l u P days v k x s) (λ(s:List Bs)=>z6z s) k xs out=z6z out'/\out'.Nodup/\out'.length<=out.length+xs.length/\∀ o,o∈out'↔o∈out∨(hasO xs o=true/\0 < val o)
 | [],k,out,hn,_=>⟨out,rfl,hn,by simp,λo=>by simp [hasO]⟩
 | x::xs,k,out,hn,hl=>by
  simp only [List.length_cons] at hl;have hh:∀ o,hasO (x::xs) o=(decide (x.Owner=o) || hasO xs o):=λo=>by unfold hasO;rw [List.any_cons]
  have hL:z3o c apps l u P days v k x out=if x.Owner∈out then some (.inl out) else if 0 < val x.Owner then some (.inl (out++[x.Owner])) else some (.inl out):=by
   unfold z3o z6x z6y;rw [w8l out x.Owner (by omega)];simp only [Option.bind_some,hO]
   by_cases hm:x.Owner∈out
   ·simp [hm]
   ·by_cases hv:0 < val x.Owner
    ·simp only [hm,hv,decide_true,decide_false,Bool.not_false,if_true,if_false];rw [if_pos (by omega)]
    ·simp [hm,hv]
  show ∃ out',(z3o c apps l u P days v k x out).bind _=_/\_;rw [hL]
  by_cases hm:x.Owner∈out
  ·rw [if_pos hm];obtain⟨out',h1,h2,h3,h4⟩:=ovR days hO xs (k+1) out hn (by omega);refine⟨out',h1,h2,by simp only [List.length_cons];omega,λo=>?_⟩;rw [h4,hh];constructor
   ·rintro (h|⟨h,h'⟩)
    ·exact .inl h
    ·exact .inr ⟨by rw [h];simp,h'⟩
   ·rintro (h|⟨h,h'⟩)
    ·exact .inl h
    ·by_cases e:x.Owner=o
     ·rw [← e];exact .inl hm
     ·exact .inr ⟨by simpa [e] using h,h'⟩
  ·rw [if_neg hm]
   by_cases hv:0 < val x.Owner
   ·rw [if_pos hv]
    obtain⟨out',h1,h2,h3,h4⟩:=ovR days hO xs (k+1) (out++[x.Owner]) (by
     rw [List.nodup_append];refine⟨hn,by simp,λa ha b hb e=>?_⟩;simp only [List.mem_singleton] at hb;subst e;subst hb
     exact hm ha) (by simp;omega)
    refine⟨out',h1,h2,by simp only [List.length_append,List.length_cons,List.length_nil] at h3 ⊢;omega,λo=>?_⟩;rw [h4,hh,List.mem_append,List.mem_singleton];constructor
    ·rintro ((h|h)|⟨h,h'⟩)
     ·exact .inl h
     ·subst h;exact .inr ⟨by simp,hv⟩
     ·exact .inr ⟨by rw [h];simp,h'⟩
    ·rintro (h|⟨h,h'⟩)
     ·exact .inl (.inl h)
     ·by_cases e:x.Owner=o
      ·exact .inl (.inr e.symm)
      ·exact .inr ⟨by simpa [e] using h,h'⟩
   ·rw [if_neg hv];obtain⟨out',h1,h2,h3,h4⟩:=ovR days hO xs (k+1) out hn (by omega);refine⟨out',h1,h2,by simp only [List.length_cons];omega,λo=>?_⟩;rw [h4,hh];constructor
    ·rintro (h|⟨h,h'⟩)
     ·exact .inl h
     ·exact .inr ⟨by rw [h];simp,h'⟩
    ·rintro (h|⟨h,h'⟩)
     ·exact .inl h
     ·by_cases e:x.Owner=o
      ·rw [← e] at h';exact absurd h' hv
      ·exact .inr ⟨by simpa [e] using h,h'⟩
end
theorem y8k (M:List (Bs×Int)):∀ (os:List Bs) (k:Nat) (out:List Bs),(∀ o,o∈os->o.length<=1000000)->out.length+os.length<=1000000->forL (λ_ o out=>z5e M o out) (λout=>some (out,(0:Int))) k os out=some (out++os.filter λo=>decide (0 < valM M o),0)
 | [],k,out,_,_=>by simp [forL]
 | o::os,k,out,ho,hl=>by
  simp only [List.length_cons] at hl;have h1:=ho o (by simp);have ho':∀ o,o∈os->o.length<=1000000:=λo h=>ho o (by simp [h]);show (z5e M o out).bind _=_;unfold z5e;rw [if_pos (by omega),List.filter_cons]
  by_cases hv:0 < valM M o
  ·have hv':0 < (lkG M o).getD 0:=hv;rw [if_pos (by simpa using hv'),if_pos (by omega),if_pos (by simpa using hv)];refine (y8k M os (k+1) (out++[o]) ho' (by simp;omega)).trans ?_;simp
  ·have hv':¬ 0 < (lkG M o).getD 0:=hv;rw [if_neg (by simpa using hv'),if_neg (by simpa using hv)];exact y8k M os (k+1) out ho' (by omega)
theorem w28 (v:Int):moF v=0∨moF v=1:=by unfold moF;split <;> simp
theorem w9y (L:List Int):y4d L=some true:=by
 refine w2z ?_;unfold y4d;have hs:SB 0 ⟨L,0⟩:=⟨by simp,by simp⟩
 refine ym (z86 hs (by omega) _ _ (by omega)) λr2 h2=>ym (w20 h2.2 (by omega) (by omega)) λr4 h4=>?_;obtain⟨c,apps,x,f,s⟩:=r4;obtain⟨⟨hc,ha,hx,hf⟩,hs4⟩:=h4;simp only at hc ha hx hf hs4;subst hf;have hb:=hc.cb;have hab:=w96 ha;refine ym (x8p hs4 (by omega) ha) λr6 h6=>ym (w2g h6.2 (by omega)) λr8 h8=>ym (kj h8.2 (by omega) _ ⟨by simp,by simp⟩) λr10 h10=>ym (w26 h10.2 (by omega)) λr12 h12=>ym (kw h12 (by omega) _ ⟨by simp,by simp⟩) λr14 h14=>?_;have hu:=h6.1.2;have hul:r6.1.length<=1000000:=by have:=h6.1.1;omega
 have hL:x.length<=12:=by have:=hx.1;have:=h2.1;omega
 have hpl:=h8.1
 have h10l:r10.1.length<=1000:=by
  have:=h10.1;simp only [List.mem_cons,List.not_mem_nil,or_false] at this;rcases this with h|h|h|h|h <;> rw [h] <;> decide
 simp only [];generalize hw:r14.1=days at *
 generalize hvv:r12.1=v at *
 generalize hoo:r10.1=o at *
 generalize hP:r8.1=P at *
 generalize hU:r6.1=u at *
 generalize hF:or2 (eF c apps x) (or2 (usF c apps u) (pyF apps P))=F
 have huf:z9q c apps x u=some (or2 (eF c apps x) (usF c apps u)):=by
  unfold z9q or2;rw [w8w hb hab hx.2,w8v hb hab];simp only [Option.bind_some]
  by_cases h:eF c apps x=0 <;> simp [h]
 have hpf:z5m c apps x u P=some F:=by
  unfold z5m;rw [huf,x41 apps P hab (by omega),← hF];simp only [Option.bind_some];unfold or2
  by_cases k1:eF c apps x=0 <;> by_cases k2:usF c apps u=0 <;> simp [k1,k2]
 have hout:((decide (days < 0)) || (decide (4000 < days)))=outP days 0 4000:=by
  unfold outP
  by_cases h1:days < 0 <;> by_cases h2:4000 < days <;> simp [h1,h2]
 have hcon:z03 apps (λ(a0:zn)=>y0o a0 o)=some (hasO apps o):=w65 apps o (by omega)
 have hmain:F=0->moF v=0->∀ w,0<=w/\w<=400000000000->∃ M,z2t c apps x u P w v=some M/\(∀ o,Qj c apps x u P o (v-w) v=some (valM M o))/\MI apps 3000 M:=by
  intro hF0 hm0 w hw;have k0:=x5c.1 (hF.trans hF0);have k1:=x5c.1 k0.2;obtain⟨U,hU1,_⟩:=y57 [] [] 0 u 0 [] (x2h k1.1) hu;have hU':Yg u=some U:=by unfold Yg;rw [if_pos (by omega)];exact hU1
  have hv0:=x5i hm0
  have hv1:v<=345686400000:=by
   unfold moF momP at hm0;split at hm0
   ·rename_i h;simp at h;omega
   ·simp at hm0
  refine w2n (BM:=λm=>(z23 c apps x u m).getD []) hab (λm hm=>?_) (w16 k1.2) (by omega) hw ⟨hv0,by omega⟩ hU';obtain⟨B,b1,b2,b3,b4⟩:=w86 hb hab hx.2 hu hul k0.1 k1.1 hm ha.1 hc.np hL hU';rw [b2];exact⟨b1,rfl,b3,λb hb=>(b4 b hb).2⟩
 have hBal:z91 c apps x u P o v=some (if or2 F (or2 (if (!hasO apps o)=true then 8 else 0) (moF v))=0 then ((Qj c apps x u P o v v).getD 0,0) else (0,or2 F (or2 (if (!hasO apps o)=true then 8 else 0) (moF v))))/\(or2 F (or2 (if (!hasO apps o)=true then 8 else 0) (moF v))=0->∃ n,Qj c apps x u P o v v=some n):=by
  unfold z91;rw [hpf,y4j apps o (by omega),x5h];simp only [Option.bind_some]
  by_cases k1:F=0
  ·rw [if_neg (by simpa using k1)];cases k2:hasO apps o
   ·refine⟨?_,λh=>?_⟩
    ·simp [or2,k1]
    ·simp [or2,k1] at h
   ·by_cases k3:moF v=0
    ·obtain⟨M,m1,m2,m3⟩:=hmain k1 k3 0 (by omega);have m2:=m2 o;rw [Int.sub_zero] at m2;refine⟨?_,λ_=>⟨_,m2⟩⟩;rw [m1,m2];simp only [Bool.not_true,Bool.false_eq_true,if_false,Option.bind_some];rw [if_neg (by simpa using k3),if_pos (by omega),if_pos (by simp [or2,k1,k3])];rfl
    ·refine⟨?_,λh=>?_⟩
     ·simp [or2,k1,k3]
     ·simp [or2,k1,k3] at h
  ·refine⟨?_,λh=>?_⟩
   ·simp [or2,k1]
   ·simp [or2,k1] at h
 have hOvd:z9y c apps x u P days v=some (if or2 F (or2 (if outP days 0 4000=true then 1 else 0) (moF v))=0 then ((z09 c apps x u P days v).getD [],0) else ([],or2 F (or2 (if outP days 0 4000=true then 1 else 0) (moF v))))/\(or2 F (or2 (if outP days 0 4000=true then 1 else 0) (moF v))=0->∃ l,z09 c apps x u P days v=some l/\l.length<=1000000):=by
  unfold z9y;rw [hpf,x5h,z0z];simp only [Option.bind_some]
  by_cases k1:F=0
  ·rw [if_neg (by simpa using k1)]
   by_cases k3:moF v=0
   ·rw [if_neg (by simpa using k3)];cases k2:outP days 0 4000
    ·have hd:=z00 k2;have ew:wr (days*86400000)=days*86400000:=wb (by omega);obtain⟨M,m1,m2,m3⟩:=hmain k1 k3 (days*86400000) (by omega);have hv0:=x5i k3
     have hv1:v<=345686400000:=by
      unfold moF momP at k3;split at k3
      ·rename_i h;simp at h;omega
      ·simp at k3
     have ew2:wr (v-days*86400000)=v-days*86400000:=wb (by omega);obtain⟨out',o1,o2,o3,o4⟩:=ovR (c:=c) (apps:=apps) (l:=x) (u:=u) (P:=P) (v:=v) (val:=valM M) days (λo=>by rw [ew,ew2];exact m2 o) apps 0 [] (by simp) (by simp;omega);have hMl:=m3.z;have hnk:(M.map λp=>p.1).Nodup:=by unfold List.Nodup;rw [List.pairwise_map];exact m3.d
     have hkl:∀ o,o∈Ze (M.map λp=>p.1)->o.length<=1000000:=λo ho=>by
      obtain⟨q,q1,q2⟩:=List.mem_map.1 ((z2c _ _).1 ho);have:=y9t hab (m3.o q q1);rw [← q2];omega
     have esame:Ze out'=(Ze (M.map λp=>p.1)).filter λo=>decide (0 < valM M o):=by
      have irr:∀ x:Bs,¬ cmpL x x < 0:=λx=>by rw [(ka x x).2 rfl];omega
      refine y72 (f:=λx:Bs=>x) (cmp:=cmpL) irr (λx y z=>z1n _ _ _) (y6z o2) ((y6z hnk).sublist List.filter_sublist) λo=>?_;rw [z2c,o4,List.mem_filter,z2c];constructor
      ·rintro (h|⟨h,h'⟩)
       ·cases h
       ·refine⟨?_,by simpa using h'⟩
        cases hk:lkG M o with
        | none=>unfold valM at h';rw [hk] at h';simp at h'
        | some n=>exact List.mem_map.2 ⟨_,z9d hk,rfl⟩
      ·rintro⟨h,h'⟩;obtain⟨q,q1,q2⟩:=List.mem_map.1 h;exact .inr ⟨by rw [← q2];exact m3.o q q1,by simpa using h'⟩
     have hR:z09 c apps x u P days v=some (Ze out'):=by
      unfold z09;rw [if_pos (by omega),o1];unfold z6z Wn;rw [if_pos (by simp at o3;omega)];rfl
     refine⟨?_,λ_=>⟨_,hR,by rw [z4t];simp at o3;omega⟩⟩;rw [if_neg (by simp),ew,m1];simp only [Option.bind_some];rw [if_pos (by omega),x3u (by rw [List.length_map];omega)];simp only [Option.bind_some];rw [if_pos (by rw [z4t,List.length_map];omega),y8k M _ 0 [] hkl (by rw [z4t,List.length_map,List.length_nil];omega),if_pos (by simp [or2,k1,k3]),hR,esame];rfl
    ·refine⟨?_,λh=>?_⟩
     ·simp [or2,k1]
     ·simp [or2,k1] at h
   ·rw [if_pos (by simpa using k3)];have k4:moF v=1:=(w28 v).resolve_left k3;refine⟨?_,λh=>?_⟩
    ·cases outP days 0 4000 <;> simp [or2,k1,k4]
    ·cases hq:outP days 0 4000 <;> simp [or2,k1,k4,hq] at h
  ·refine⟨?_,λh=>?_⟩
   ·simp [or2,k1]
   ·simp [or2,k1] at h
 obtain⟨hB1,hB2⟩:=hBal;obtain⟨hO1,hO2⟩:=hOvd;rw [hB1,hO1];simp only [Option.bind_some,w2h apps P hab (by omega),x41 apps P hab (by omega),x8q hb hab (λy hy=>(hu y hy).1),w8a,hcon,x2e,w27,hout];rw [if_neg (by simp),hF];generalize hG1:or2 F (or2 (if (!hasO apps o)=true then 8 else 0) (moF v))=G1 at *
 generalize hG2:or2 F (or2 (if outP days 0 4000=true then 1 else 0) (moF v))=G2 at *
 have hJ2:∀ (n:Int) (l:List Bs),l.length<=1000000->Ok (z3v (n,G1) (l,G2) G1 G2 n l) (· = true):=λn l hl=>by
  unfold z3v Ww;rw [if_pos (by simp),if_pos (by simp),if_pos (by simp),w8b l (by omega),w18];exact qt rfl
 have hJ1:∀ n:Int,Ok (z3w (c,apps,x,eF c apps x,s) r6 r8 r12 r14 (n,G1) (if G2=0 then ((z09 c apps x u P days v).getD [],0) else ([],G2)) G1 G2 n) (· = true):=λn=>by
  unfold z3w;simp only [hU,hP,hw,hvv]
  by_cases k:G2=0
  ·obtain⟨l,l1,l2⟩:=hO2 k;rw [if_pos (by simpa using k),if_pos k,l1];simp only [Option.bind_some,Option.getD_some];have:=hJ2 n l l2;rw [k] at this ⊢;exact this
  ·rw [if_neg (by simpa using k),if_neg k];exact hJ2 n [] (by simp)
 by_cases k:G1=0
 ·obtain⟨n,n1⟩:=hB2 k;rw [if_pos (by simpa using k),if_pos k,n1];simp only [Option.bind_some,Option.getD_some];have:=hJ1 n;rw [k] at this ⊢;exact this
 ·rw [if_neg (by simpa using k),if_neg k];exact hJ1 0
end Go.Proofs.YtbpedjpoikmbjaaGreatDoor
