/- BillsWritten: the plain law. -/
import Derived.Test.YtnnfdgngnoamoaaGreatDoorBd
import Derived.Test.YtnnfdgngnoamoaaGreatDoorUsXb
import Derived.Test.YtnnfdgngnoamoaaGreatDoorXbl
namespace Go.Proofs.YtnnfdgngnoamoaaGreatDoor
set_option linter.unusedVariables false
set_option linter.unusedSimpArgs false
set_option linter.unusedSectionVars false
set_option maxRecDepth 20000
theorem OI.mono {m:Int} {N N':Nat} {O:List (Bs×zm)} (h:OI m N O) (hN:N≤N'):OI m N' O:=
 ⟨h.d,fun q hq=>by have:=h.o q hq; exact ⟨this.1,by omega,this.2.2⟩,by have:=h.z; omega⟩
theorem w0g {apps:List zy} (ha:AB apps) (a:Bs):(owA apps a).length≤1000:=by
 unfold owA
 split
 ·rename_i x hx
  have:=(ha.2 x (List.mem_of_getElem? (qi hx).2)).2
  omega
 ·simp
section
variable {c:zx} {apps:List zy} {l:List zk} {u:List zz} (hb:CB c) (ha:AB apps)
include ha
theorem y5d {m:Int} {N:Nat} {O:List (Bs×zm)} (h:OI m N O) (k:zu):OI m (N+1) (xq c apps l u m O k):=w6o h _ (w0g ha _) _ (y7h ..)
theorem y8g {m:Int}:∀ (K:List zu) (N:Nat) (O:List (Bs×zm)),OI m N O→OI m (N+K.length) (K.foldl (xq c apps l u m) O)
 | [],N,O,h=>h
 | k::K,N,O,h=>by
  rw [List.foldl_cons]
  exact (y8g K (N+1) _ (y5d ha h k)).mono (by simp only [List.length_cons]; omega)
include hb
variable (hl:∀ x,x∈l→EB x) (hu:∀ x,x∈u→atB x.Month∧x.App.length≤1000000∧x.Product.length≤1000000) (hul:u.length≤1000000) (h0:eF c apps l=0) (hu0:usF c apps u=0) {m:Int} (hm:0≤m∧m≤132)
include hl hu hul h0 hu0 hm
theorem w6z {E':List (zu×qp)} (hE:∀ a p,aE E' a p=acR c (m * 2592000000) a p a00 (cutT ((m+1) * 2592000000 - 1) l)) {U:List (zz×Int)} (hU:Yg u=some U) {N:Nat} {O:List (Bs×zm)} (h:OI m N O) (hN:N≤1000) (k:zu) (hk:k.app_.length≤1000000∧k.product_.length≤1000000) (hA:hasA apps k.app_=true) (hs:(lkG (E'.map fun p=>(p.1,vf p.2)) k).isSome=true) :
  z3d c (E'.map fun p=>(p.1,vf p.2)) apps U m k O=some (.inl (xq c apps l u m O k)):=by
 have h1:=x28 hb ha hl hu hul h0 hu0 hm hE hU k.app_ k.product_ hk
 obtain ⟨o,ho⟩:=Option.isSome_iff_exists.1 hs
 have ek:zu.mk k.app_ k.product_=k:=rfl
 rw [ek,ho] at h1
 obtain ⟨n,h2,h3⟩:=h1
 obtain ⟨⟨e1,e2,e3⟩,e4,e5⟩:=z52 h0
 unfold z3d xq
 rw [if_pos ⟨by omega,by omega⟩,ho]
 simp only [Option.bind_some]
 rw [h2]
 simp only [Option.bind_some]
 rw [h3]
 simp only [Option.bind_some]
 by_cases hz:lnF c l u m k.app_ k.product_=[]
 ·rw [hz,if_pos (by rfl)]
  rfl
 ·rw [if_neg (by simpa using hz)]
  obtain ⟨r,x,r1,r2,r3,r4⟩:=w7d ha (z97 e2) hA
  rw [r1]
  simp only [Option.bind_some]
  rw [r2]
  simp only [Option.bind_some]
  rw [if_pos (by omega),r3]
  exact w60 _ _ hz (y7h ..) h hN
theorem x4f {E':List (zu×qp)} (hE:∀ a p,aE E' a p=acR c (m * 2592000000) a p a00 (cutT ((m+1) * 2592000000 - 1) l)) {U:List (zz×Int)} (hU:Yg u=some U):∀ (K:List zu) (j N:Nat) (O:List (Bs×zm)),OI m N O→N+K.length≤1000→(∀ k,k∈K→(k.app_.length≤1000000∧k.product_.length≤1000000)∧hasA apps k.app_=true∧(lkG (E'.map fun p=>(p.1,vf p.2)) k).isSome=true) →
  forL (fun _ k O=>z3d c (E'.map fun p=>(p.1,vf p.2)) apps U m k O) z3c j K O=z3c (K.foldl (xq c apps l u m) O)
 | [],j,N,O,_,_,_=>rfl
 | k::K,j,N,O,h,hN,hk=>by
  simp only [List.length_cons] at hN
  obtain ⟨k1,k2,k3⟩:=hk k (by simp)
  show (z3d c _ apps U m k O).bind _=_
  rw [w6z hb ha hl hu hul h0 hu0 hm hE hU h (by omega) k k1 k2 k3]
  exact x4f hE hU K (j+1) (N+1) _ (y5d ha h k) (by omega) fun k hk'=>hk k (by simp [hk'])
theorem x4d {a:zy} (hA:a∈apps):∀ (ps:List yh) (j N:Nat) (O:List (Bs×zm)),OI m N O→N+ps.length≤1000 →
  forL (fun _ p O=>z3a c l u m a p O) some j ps O=some ((ps.map fun p=>zu.mk a.Key p.Key).foldl (xq c apps l u m) O)
 | [],j,N,O,_,_=>rfl
 | p::ps,j,N,O,h,hN=>by
  obtain ⟨⟨e1,e2,e3⟩,e4,e5⟩:=z52 h0
  simp only [List.length_cons] at hN
  show (z3a c l u m a p O).bind _=_
  have hln:=y7h c l u m a.Key p.Key
  have hst:z3a c l u m a p O=some (.inl (xq c apps l u m O (zu.mk a.Key p.Key))):=by
   unfold z3a
   rw [w1a hb ha hl hu hul h0 hu0 hm]
   simp only [Option.bind_some]
   rw [if_pos (by omega),x41 a.Owner (by have:=(ha.2 a hA).2; omega) _ 0 O (by have:=h.b a.Owner; omega)]
   unfold xq
   rw [w0f (z97 e2) hA]
   rfl
  rw [hst]
  exact x4d hA ps (j+1) (N+1) _ (y5d ha h _) (by omega)
theorem x4e (hP:c.Products.length≤10):∀ (xs:List zy) (j N:Nat) (O:List (Bs×zm)),(∀ a,a∈xs→a∈apps)→OI m N O→N+10 * xs.length≤1000 →
  forL (fun _ a O=>z3b c l u m a O) z09 j xs O=z09 ((xs.flatMap fun a=>c.Products.map fun p=>zu.mk a.Key p.Key).foldl (xq c apps l u m) O)
 | [],j,N,O,_,_,_=>rfl
 | a::xs,j,N,O,hA,h,hN=>by
  simp only [List.length_cons] at hN
  show (z3b c l u m a O).bind _=_
  have hst:z3b c l u m a O=some (.inl ((c.Products.map fun p=>zu.mk a.Key p.Key).foldl (xq c apps l u m) O)):=by
   unfold z3b
   rw [if_pos (by omega),x4d hb ha hl hu hul h0 hu0 hm (hA a (by simp)) c.Products 0 N O h (by omega)]
   rfl
  rw [hst,List.flatMap_cons,List.foldl_append]
  exact x4e hP xs (j+1) (N+10) _ (fun a ha=>hA a (by simp [ha])) ((y8g ha _ N O h).mono (by simp; omega)) (by omega)
end
noncomputable def outB (O:List (Bs×zm)):List zm:=(Qt (O.map fun p=>p.1)).map fun o=>(lkG O o).getD zb
theorem x44 {m:Int} {N:Nat} {O:List (Bs×zm)} (h:OI m N O):∀ (os:List Bs) (j:Nat) (out:List zm),(∀ o,o∈os→o∈O.map fun p=>p.1)→out.length+os.length≤1000000→forL (fun _ o out=>z57 O o out) some j os out=some (out++os.map fun o=>(lkG O o).getD zb)
 | [],j,out,_,_=>by simp [forL]
 | o::os,j,out,ho,hl=>by
  simp only [List.length_cons] at hl
  obtain ⟨q,q1,q2⟩:=List.mem_map.1 (ho o (by simp))
  have hk:=z87 h.d q1
  have hlen:=(h.o q q1).2.2
  rw [q2] at hk hlen
  show (z57 O o out).bind _=_
  unfold z57
  rw [hk]
  simp only [Option.bind_some]
  rw [if_pos ⟨by omega,by omega⟩]
  simp only [Option.bind_some,after]
  refine (x44 h os (j+1) (out++[q.2]) (fun o hm=>ho o (by simp [hm])) (by simp; omega)).trans ?_
  simp [hk]
theorem w5o {m:Int} {N:Nat} {O:List (Bs×zm)} (h:OI m N O) (hO:O.length≤12):z3c O=some (outB O)∧z09 O=some (outB O)∧(outB O).length≤12∧∀ b,b∈outB O→b.Lines.length≤3 * N:=by
 have hn:(O.map fun p=>p.1).Nodup:=by unfold List.Nodup; rw [List.pairwise_map]; exact h.d
 have hl:(outB O).length=O.length:=by unfold outB; rw [List.length_map,y5h,List.length_map]
 have hmem:∀ b,b∈outB O↔b∈O.map fun p=>p.2:=fun b=>by
  unfold outB
  rw [List.mem_map,List.mem_map]
  constructor
  ·rintro ⟨o,o1,o2⟩
   obtain ⟨q,q1,q2⟩:=List.mem_map.1 ((y05 _ _).1 o1)
   have hk:=z87 h.d q1
   rw [q2] at hk
   rw [hk] at o2
   exact ⟨q,q1,o2⟩
  ·rintro ⟨q,q1,q2⟩
   refine ⟨q.1,(y05 _ _).2 (List.mem_map.2 ⟨q,q1,rfl⟩),?_⟩
   rw [z87 h.d q1]
   exact q2
 refine ⟨?_,?_,by omega,fun b hb => ?_⟩
 ·unfold z3c
  rw [if_pos (by omega),x8s (by rw [List.length_map]; omega)]
  simp only [Option.bind_some]
  rw [if_pos (by rw [y5h,List.length_map]; omega),x44 h _ 0 [] (fun o ho=>(y05 _ _).1 ho) (by rw [y5h,List.length_map,List.length_nil]; omega)]
  rfl
 ·unfold z09
  rw [if_pos (by omega)]
  refine x8t (by rw [List.length_map]; exact hO) ?_ ?_ hmem
  ·rw [List.map_map]
   have:O.map ((fun b:zm=>b.Owner) ∘ fun p=>p.2)=O.map fun p=>p.1:=List.map_congr_left fun q hq=>(h.o q hq).1.1
   rw [this]; exact hn
  ·unfold kf outB
   rw [List.pairwise_map]
   refine (x8z hn).imp_of_mem fun {x y} hx hy hxy => ?_
   have own:∀ x,x∈Qt (O.map fun p=>p.1)→((lkG O x).getD zb).Owner=x:=fun x hx=>by
    obtain ⟨q,q1,q2⟩:=List.mem_map.1 ((y05 _ _).1 hx)
    have hk:=z87 h.d q1
    rw [q2] at hk
    rw [hk]
    exact (h.o q q1).1.1.trans q2
   rw [own x hx,own y hy]
   exact hxy
 ·obtain ⟨q,q1,q2⟩:=List.mem_map.1 ((hmem b).1 hb)
  rw [← q2]
  exact (h.o q q1).2.1
section
variable {c:zx} {apps:List zy} {l:List zk} {u:List zz} (hb:CB c) (ha:AB apps) (hl:∀ x,x∈l→EB x) (hu:∀ x,x∈u→atB x.Month∧x.App.length≤1000000∧x.Product.length≤1000000) (hul:u.length≤1000000) (h0:eF c apps l=0) (hu0:usF c apps u=0) {m:Int} (hm:0≤m∧m≤132)
include hb ha hl hu hul h0 hu0 hm
theorem w6r (hA:apps.length≤4) (hP:c.Products.length≤10) (hL:l.length≤12) {U:List (zz×Int)} (hU:Yg u=some U) :
  ∃ B,z78 c apps l U m=some B∧z4x c apps l u m=some B∧B.length≤12∧∀ b,b∈B→b.Lines.length≤36:=by
 obtain ⟨⟨e1,e2,e3⟩,e4,e5⟩:=z52 h0
 obtain ⟨E',q1,q2,q3,q4⟩:=w7i (apps:=apps) hb e1 hm l (fun x hx=>⟨e4 x hx,hl x hx⟩) (by omega)
 obtain ⟨⟨rp,_⟩,_⟩:=Wp e1
 have hrise:=w7e (z97 e2) rp
 generalize hall:(E'.map fun p=>(p.1,vf p.2))=all at q1
 have hkeys:all.map (fun p=>p.1)=E'.map fun p=>p.1:=by rw [← hall,List.map_map]; rfl
 have hd:all.Pairwise fun p q=>p.1≠q.1:=by rw [← hall,List.pairwise_map]; exact q3.d
 have hn:(all.map fun p=>p.1).Nodup:=by unfold List.Nodup; rw [List.pairwise_map]; exact hd
 have hKk:∀ k,k∈all.map (fun p=>p.1)→∃ x,EOk c apps x∧EB x∧k=zu.mk x.App x.Product:=fun k hk=>by
  rw [hkeys] at hk
  obtain ⟨q,k1,k2⟩:=List.mem_map.1 hk
  obtain ⟨x,x1,x2,x3⟩:=q3.k q k1
  exact ⟨x,x1,x2,k2.symm.trans x3⟩
 have hmem:∀ x,x∈(allK c apps).filter (fun k=>(lkG all k).isSome)↔x∈all.map fun p=>p.1:=fun k=>by
  rw [List.mem_filter]
  constructor
  ·rintro ⟨_,h⟩
   obtain ⟨o,ho⟩:=Option.isSome_iff_exists.1 h
   exact List.mem_map.2 ⟨_,y2a ho,rfl⟩
  ·intro h
   obtain ⟨x,x1,x2,x3⟩:=hKk k h
   refine ⟨by rw [x3]; exact w7f x1.a x1.p,?_⟩
   obtain ⟨q,k1,k2⟩:=List.mem_map.1 h
   have:=z87 hd k1
   rw [k2] at this
   rw [this]; rfl
 have hKr:y4m ((allK c apps).filter fun k=>(lkG all k).isSome):=hrise.sublist List.filter_sublist
 have hKn:((allK c apps).filter fun k=>(lkG all k).isSome).Nodup:=hKr.imp fun h e=>by subst e; exact y87 _ h
 have hKl:((allK c apps).filter fun k=>(lkG all k).isSome).length≤12:=by
  have:=((List.perm_ext_iff_of_nodup hKn hn).2 hmem).length_eq
  rw [this,hkeys,List.length_map]
  omega
 have hsame:(allK c apps).foldl (xq c apps l u m) []=((allK c apps).filter fun k=>(lkG all k).isSome).foldl (xq c apps l u m) []:=by
  refine y8f _ _ _ _ fun k hk hq O => ?_
  have hlen:k.app_.length≤1000000∧k.product_.length≤1000000:=by
   obtain ⟨a,a1,a2⟩:=List.mem_flatMap.1 hk
   obtain ⟨p,p1,p2⟩:=List.mem_map.1 a2
   have h1:=(ha.2 a a1).1
   have h2:=(hb.kp p p1).1
   rw [← p2]
   exact ⟨by simp only; omega,by simp only; omega⟩
  have h1:=x28 hb ha hl hu hul h0 hu0 hm q2 hU k.app_ k.product_ hlen
  have ek:zu.mk k.app_ k.product_=k:=rfl
  rw [hall,ek] at h1
  cases ho:lkG all k with
  | some o=>rw [ho] at hq; cases hq
  | none =>
   rw [ho] at h1
   have h1:lnF c l u m k.app_ k.product_=[]:=h1
   unfold xq bsC
   rw [if_pos h1]
 have hoi:OI m 0 []:=⟨by simp,by simp,by simp⟩
 have hO:=y8g (c:=c) (l:=l) (u:=u) ha ((allK c apps).filter fun k=>(lkG all k).isSome) 0 [] hoi
 rw [Nat.zero_add] at hO
 obtain ⟨f1,f2,f3,f4⟩:=w5o hO (by have:=hO.z; omega)
 refine ⟨_,?_,?_,f3,fun b hb=>by have:=f4 b hb; omega⟩
 ·unfold z78
  rw [q1]
  simp only [Option.bind_some]
  have hal:all.length≤12:=by rw [← hall,List.length_map]; omega
  rw [if_pos (by omega),x8u (by rw [List.length_map]; exact hal) hn hKr hmem]
  simp only [Option.bind_some]
  rw [if_pos (by omega),← f1,← hall]
  refine x4f hb ha hl hu hul h0 hu0 hm q2 hU _ 0 0 [] hoi (by rw [hall]; omega) fun k hk => ?_
  rw [hall] at hk ⊢
  obtain ⟨x,x1,x2,x3⟩:=hKk k ((hmem k).1 hk)
  have hk2:=(List.mem_filter.1 hk).2
  subst x3
  exact ⟨⟨x2.a,x2.p⟩,x1.a,hk2⟩
 ·unfold z4x
  rw [if_pos (by omega),x4e hb ha hl hu hul h0 hu0 hm hP apps 0 0 [] (fun _ h=>h) hoi (by omega)]
  show z09 ((allK c apps).foldl _ [])=_
  rw [hsame]
  exact f2
end
def UG (x:zz):Prop:=atB x.Month∧x.App.length≤1000000∧x.Product.length≤1000000
theorem x9u {k:Int} {s:zt} (h:SB k s) (hk:k≤10000) {apps:List zy} (ha:apps.length≤4∧∀ x,x∈apps→x.Key.length≤100∧x.Owner.length≤100):Ok (z8t s apps) fun r=>(r.1.length≤24∧∀ x,x∈r.1→UG x)∧SB (k+48) r.2:=by
 unfold z8t
 refine ok_g (by omega) (z7m (I:=fun j (q:(List Int)×Int×(List zz))=>SB (k+16 * (j:Int)) ⟨q.1,q.2.1⟩∧q.2.2.length≤8 * j∧∀ x,x∈q.2.2→UG x) _ _ _ ⟨by simpa using h,by simp,by simp⟩ ?_ ?_)
 ·rintro j ⟨c3,c4,l5⟩ _ hj ⟨i1,i2,i3⟩
  simp only at i1 i2 i3
  unfold y3n
  refine ok_g (by omega) (z4f (I:=fun t (q:(List Int)×Int×(List zz))=>SB (k+16 * (j:Int)+4 * (t:Int)) ⟨q.1,q.2.1⟩∧q.2.2.length≤8 * j+2 * t∧∀ x,x∈q.2.2→UG x) apps 0 _ ⟨by simpa using i1,by simpa using i2,i3⟩ ?_ ?_)
  ·rintro t x ⟨c10,c11,l12⟩ _ hx ⟨j1,j2,j3⟩
   simp only at j1 j2 j3
   have hx':apps[t]?=some x:=by simpa using hx
   have htl:=jg hx'
   have hxk:=ha.2 x (List.mem_of_getElem? hx')
   unfold y3m
   refine ok_g (by simp) (z4f (I:=fun w (q:(List Int)×Int×(List zz))=>SB (k+16 * (j:Int)+4 * (t:Int)+2 * (w:Int)) ⟨q.1,q.2.1⟩∧q.2.2.length≤8 * j+2 * t+w∧∀ x,x∈q.2.2→UG x) _ 0 _ ⟨by simpa using j1,by simpa using j2,j3⟩ ?_ ?_)
   ·rintro w y ⟨c19,c20,l21⟩ _ hy ⟨w1,w2,w3⟩
    simp only at w1 w2 w3
    have hwl:w < 2:=by have:=jg hy; simpa using this
    have hyl:y.length≤100:=by
     have:y∈([[109,97,112,115],[115,104,111,112]]:List Bs):=List.mem_of_getElem? hy
     simp only [List.mem_cons,List.not_mem_nil,or_false] at this
     rcases this with rfl | rfl <;> simp
    unfold y3l z5n
    refine yn (xf w1 (by omega) _ (by omega)) fun r28 h28=>wt (fun _ => ?_) (fun _ => ?_)
    ·refine yn (xt h28 (by omega) _ ⟨by simp,by simp⟩) fun r31 h31=>ok_g (show l21.length+1≤1000000000 by omega) (qo ⟨h31.2.mono (by omega),by simp; omega,fun z hz => ?_⟩)
     rcases List.mem_append.1 hz with hz | hz
     ·exact w3 z hz
     ·simp only [List.mem_cons,List.not_mem_nil,or_false] at hz
      rw [hz]
      exact ⟨⟨by simp only; omega,by simp only; omega⟩,by simp only; omega,by simp only; omega⟩
    ·exact qo ⟨h28.mono (by omega),by simp; omega,w3⟩
   ·rintro ⟨c19,c20,l21⟩ ⟨w1,w2,w3⟩
    simp only [List.length_cons,List.length_nil] at w1 w2 w3
    exact qo ⟨w1.mono (by omega),by simp; omega,w3⟩
  ·rintro ⟨c10,c11,l12⟩ ⟨j1,j2,j3⟩
   simp only at j1 j2 j3
   have:=ha.1
   exact qo ⟨j1.mono (by omega),by simp; omega,j3⟩
 ·rintro ⟨c3,c4,l5⟩ ⟨i1,i2,i3⟩
  simp only at i1 i2 i3
  exact qo ⟨⟨by simp; omega,i3⟩,i1.mono (by omega)⟩
theorem x6a {k:Int} {s:zt} (h:SB k s) (hk:k≤10000) {apps:List zy} (ha:apps.length≤4∧∀ x,x∈apps→x.Key.length≤100∧x.Owner.length≤100):Ok (z8q s apps) fun r=>(r.1.length≤24∧∀ x,x∈r.1→UG x)∧SB (k+60) r.2:=by
 unfold z8q
 refine yn (x9u h hk ha) fun r3 h3 => ?_
 have J:∀ v (s':zt),(v=true→0 < r3.1.length)→SB (k+49) s'→Ok (z25 r3 v s'.L s'.at_) fun r=>(r.1.length≤24∧∀ x,x∈r.1→UG x)∧SB (k+60) r.2:=fun v s' hv hs'=>by
  unfold z25 z5l
  refine wt (fun hvv => ?_) (fun _=>qo ⟨h3.1,hs'.mono (by omega)⟩)
  have h0:=hv hvv
  refine yn (Yx hs' (by omega) _ (by have:=h3.1.1; omega)) fun r14 h14 => ?_
  have b1:=h14.1.1
  have b2:=h14.1.2.1 (by omega)
  obtain ⟨x,x1,x2,x3⟩:=Wr r3.1 r14.1 ⟨b1,b2⟩
  rw [x1]
  simp only [Option.bind_some]
  refine yn (ud h14.2 (by omega) _ ⟨by simp,by simp⟩) fun r18 h18=>yn (Yw h18.2 (by omega) _ _ (by omega)) fun r20 h20=>yn (Yw h20.2 (by omega) _ _ (by omega)) fun r22 h22 => ?_
  have hxG:=h3.1.2 x x2
  have h18l:r18.1.length≤1000000:=by
   have:=h18.1
   simp only [List.mem_cons,List.not_mem_nil,or_false] at this
   rcases this with h | h
   ·rw [h]; exact hxG.2.1
   ·rw [h]; simp
  refine qo ⟨⟨by simp only [List.length_set]; exact h3.1.1,fun z hz => ?_⟩,h22.2.mono (by omega)⟩
  have hnew:∀ m:Int,atB m→∀ cl,UG (zz.mk r18.1 x.Product m cl):=fun m hm cl=>⟨hm,h18l,hxG.2.2⟩
  have hm20:atB r20.1:=⟨by have:=h20.1; omega,by have:=h20.1; omega⟩
  rcases List.mem_or_eq_of_mem_set hz with hz | rfl
  ·rcases List.mem_or_eq_of_mem_set hz with hz | rfl
   ·rcases List.mem_or_eq_of_mem_set hz with hz | rfl
    ·exact h3.1.2 z hz
    ·exact hnew _ hxG.1 _
   ·exact hnew _ hm20 _
  ·exact hnew _ hm20 _
 refine wt (fun hp=>yn (xf h3.2 (by omega) _ (by omega)) fun r7 h7=>J _ _ (fun _=>by simpa using hp) (h7.mono (by omega))) (fun _=>J false r3.2 (by simp) (h3.2.mono (by omega)))
def bigC (b:zm):Bool:=outP b.Cents (-1000000000000) 1000000000000
def sumW (B:List zm) (s:Int):Int:=B.foldl (fun s x=>wr (s+x.Cents)) s
theorem x0k:∀ (B:List zm) (k:Nat) (s:Int),forL (fun (k:Nat) (x:zm) (s:Int)=>z4b k x s) (fun (s:Int)=>y1x s) k B s=some (if B.any bigC=true then (0,1) else (sumW B s,0))
 | [],k,s=>rfl
 | b::B,k,s=>by
  show (z4b k b s).bind _=_
  unfold z4b
  rw [z16]
  simp only [Option.bind_some]
  have e:outP b.Cents (-1000000000000) 1000000000000=bigC b:=rfl
  rw [e,List.any_cons]
  cases hb:bigC b
  ·simp only [Bool.false_eq_true,if_false,Option.bind_some,after,Bool.false_or]
   exact x0k B (k+1) _
  ·simp [after]
theorem x65 (B:List zm) (h:B.length≤500):z8a B=some (if B.any bigC=true then (0,1) else (sumW B 0,0)):=by
 unfold z8a
 rw [if_neg (by simp; omega),if_pos (by omega)]
 exact x0k B 0 0
theorem w5y (a:List yx) (h:a.length≤1000000000):y2m a a=some true:=
 w45 (fun (x7 x10:yx)=>(!((x7.App == x10.App) && ((x7.Product == x10.Product) && ((x7.What == x10.What) && ((x7.Calls == x10.Calls) && ((x7.Cents == x10.Cents) && true))))))) (fun x=>by simp) a h
theorem x9j (b:zm) (h:b.Lines.length≤1000000):z2g b b=some true:=by
 unfold z2g z00
 rw [if_pos (by simp),if_pos (by simp),if_pos (by simp),w5y _ (by omega)]
 rfl
theorem x9i (B:List zm) (h:B.length≤1000000) (hB:∀ b,b∈B→b.Lines.length≤1000000):z8m B B=some true:=by
 unfold z8m y2n
 rw [if_neg (by simp),if_pos (by omega)]
 have e:forL (fun (k:Nat) (x:zm) (s:Unit)=>z67 B (fun (a0:zm) (a1:zm)=>z2g a0 a1) k x) (fun (s:Unit)=>y1c) 0 B ()=some true:=by
  rw [Wm (p:=fun _ _=>true) (r0:=false) (e:=true) rfl B 0 fun j x _ hj => ?_]
  ·have:∀ (l:List zm) k,allI (fun (_:Nat) (_:zm)=>true) k l=true:=by
    intro l; induction l with
    | nil=>intro k; rfl
    | cons x l ih=>intro k; simp [allI,ih]
   rw [this]; rfl
  ·have hx:B[j]?=some x:=by simpa using hj
   unfold z67
   rw [hx]
   simp only [Option.bind_some]
   rw [x9j x (hB x (List.mem_of_getElem? hx))]
   rfl
 rw [e]
 rfl
theorem x0x {r4:zx×(List zy)×(List zk)×Int×zt} {r6:(List zz)×zt} {r8:Int×zt} {r10:(List zm)×Int} {r12:Int×Int}:∀ (B:List zm) (k:Nat) (s:Int),forL (fun (k:Nat) (x:zm) (s:Int)=>y3v k x s) (fun (s:Int)=>z5y r4 r6 r8 r10 r12 s) k B s=z5y r4 r6 r8 r10 r12 (sumW B s)
 | [],k,s=>rfl
 | b::B,k,s=>x0x B (k+1) _
theorem w1f (B:List zm) (h:B.length≤1000000):y2o B (fun (a0:zm)=>z2l a0)=some (B.any bigC):=
 w46 B (p:=fun (a0:zm)=>z2l a0) bigC (by omega) fun x _=>by
  unfold z2l bigC outP
  congr 1
  by_cases h1:1000000000000 < x.Cents <;> by_cases h2:x.Cents < -1000000000000 <;> simp [h1,h2] <;> omega
theorem w6s (L:List Int):y21 L=some true:=by
 refine w0r ?_
 unfold y21
 have hs:SB 0 ⟨L,0⟩:=⟨by simp,by simp⟩
 refine yn (y1q hs (by omega) _ _ (by omega)) fun r2 h2=>yn (w0s h2.2 (by omega) (by omega)) fun r4 h4 => ?_
 obtain ⟨c,apps,x,f,s⟩:=r4
 obtain ⟨⟨hc,ha,hx,hf⟩,hs4⟩:=h4
 simp only at hc ha hx hf hs4
 subst hf
 have hb:=hc.cb
 have hab:=w7q ha
 refine yn (x6a hs4 (by omega) ha) fun r6 h6=>yn (xt h6.2 (by omega) _ ⟨by simp,by simp⟩) fun r8 h8 => ?_
 have hu:=h6.1.2
 have hul:r6.1.length≤1000000:=by have:=h6.1.1; omega
 have hL:x.length≤12:=by have:=hx.1; have:=h2.1; omega
 simp only []
 generalize hF:or2 (eF c apps x) (or2 (usF c apps r6.1) (if outP r8.1 0 132=true then 1 else 0))=F
 have huf:z7y c apps x r6.1=some (or2 (eF c apps x) (usF c apps r6.1)):=by
  unfold z7y or2
  rw [w6i hb hab hx.2,w6h hb hab]
  simp only [Option.bind_some]
  by_cases h:eF c apps x=0 <;> simp [h]
 have hout:((decide (r8.1 < 0)) || (decide (132 < r8.1)))=outP r8.1 0 132:=by
  unfold outP
  by_cases h1:r8.1 < 0 <;> by_cases h2:132 < r8.1 <;> simp [h1,h2]
 have hB:∃ B,z8e c apps x r6.1 r8.1=some (B,F)∧B.length≤12∧(F≠0→B=[])∧(F=0→z4x c apps x r6.1 r8.1=some B∧∀ b,b∈B→b.Lines.length≤36):=by
  unfold z8e
  rw [huf]
  simp only [Option.bind_some]
  by_cases k1:eF c apps x=0
  ·by_cases k2:usF c apps r6.1=0
   ·have e0:or2 (eF c apps x) (usF c apps r6.1)=0:=y6x.2 ⟨k1,k2⟩
    rw [if_neg (by simpa using e0),z16]
    simp only [Option.bind_some]
    cases k3:outP r8.1 0 132
    ·rw [if_neg (by simp)]
     obtain ⟨U,hU,_⟩:=y4s [] [] 0 r6.1 0 [] (y96 k2) hu
     have hU':Yg r6.1=some U:=by unfold Yg; rw [if_pos (by omega)]; exact hU
     obtain ⟨B,b1,b2,b3,b4⟩:=w6r hb hab hx.2 hu hul k1 k2 (z0p k3) ha.1 hc.np hL hU'
     rw [hU']
     simp only [Option.bind_some]
     rw [b1]
     have e1:F=0:=by rw [← hF,k3]; exact y6x.2 ⟨k1,y6x.2 ⟨k2,by simp⟩⟩
     rw [e1]
     exact ⟨B,rfl,b3,fun h=>absurd rfl h,fun _=>⟨b2,b4⟩⟩
    ·rw [if_pos rfl]
     have e1:F=1:=by rw [← hF,k3]; unfold or2; simp [k1,k2]
     rw [e1]
     exact ⟨[],rfl,by simp,fun _=>rfl,fun h=>by omega⟩
   ·have e0:or2 (eF c apps x) (usF c apps r6.1)=usF c apps r6.1:=by unfold or2; rw [if_neg (not_not_intro k1)]
    have e1:F=usF c apps r6.1:=by rw [← hF]; unfold or2; rw [if_neg (not_not_intro k1),if_pos k2]
    rw [e0,if_pos (by simpa using k2),e1]
    exact ⟨[],rfl,by simp,fun _=>rfl,fun h=>absurd h k2⟩
  ·have e0:or2 (eF c apps x) (usF c apps r6.1)=eF c apps x:=by unfold or2; rw [if_pos k1]
   have e1:F=eF c apps x:=by rw [← hF]; unfold or2; rw [if_pos k1]
   rw [e0,if_pos (by simpa using k1),e1]
   exact ⟨[],rfl,by simp,fun _=>rfl,fun h=>absurd h k1⟩
 obtain ⟨B,b1,b2,b3,b4⟩:=hB
 rw [b1]
 simp only [Option.bind_some]
 rw [x65 B (by omega)]
 simp only [Option.bind_some,x6b hb hab (fun y hy=>(hu y hy).1),x56,hout,w5x]
 rw [hF]
 by_cases k0:F=0
 ·rw [if_neg (by simpa using k0),if_pos (by omega),x0x]
  obtain ⟨b5,b6⟩:=b4 k0
  unfold z5y
  simp only
  rw [w1f B (by omega)]
  simp only [Option.bind_some]
  rw [if_neg (by simpa using k0),b5]
  simp only [Option.bind_some]
  rw [x9i B (by omega) fun b hb=>by have:=b6 b hb; omega]
  simp only [Option.bind_some]
  unfold z5x ky
  rw [x2c]
  cases B.any bigC
  ·simp
   exact qo rfl
  ·simp
   exact qo rfl
 ·have e:=b3 k0
  subst e
  rw [if_pos (by simpa using k0)]
  unfold Wl
  rw [x2c]
  simp [sumW]
  exact qo rfl
end Go.Proofs.YtnnfdgngnoamoaaGreatDoor
