/- Plain: the law TopCachesServe is true for every list of numbers. -/
import Derived.Test.YtahcnngcpjkpgabGreatDoorRtqZw
import Derived.Test.YtahcnngcpjkpgabGreatDoorCqZw
import Derived.Test.YtahcnngcpjkpgabGreatDoorZwk
namespace Go.Proofs.YtahcnngcpjkpgabGreatDoor
set_option linter.unusedVariables false
set_option maxRecDepth 20000
abbrev httB:Bs:=[72,84,84,80,47,49,46,49]
abbrev hoH (r:zw):zg:=zg.mk ho_ r.Host
abbrev rqL (l:List zg):List zg:=l.filter fun h => !owB true h
def tgB (r:zw):Bs:=if r.Query=[] then r.Path else r.Path++63::r.Query
theorem w8v:jx.all fldB=true:=by decide +kernel
theorem x9q (r:zw) (hb:r.Body=[]) (h1:r.Method.length≤100) (h2:r.Host.length≤1000) (h3:r.Path.length≤1000) (h4:r.Query.length≤1000) (h5:r.Headers.length≤50) (ho:∀ h,h∈r.Headers→hdOK h) (hc:jk r=some 0) :
  z2i r=some ((r.Method++32::(tgB r++32::httB))++(crl++((hoH r::rqL r.Headers).flatMap lnB++(crl++[]))),0):=by
 have h6:∀ h,h∈r.Headers→smH h:=fun h hh=>y11 (ho h hh)
 have hf:∀ x,x∈r.Headers→nmOK x:=fun x hx=>x3h (h6 x hx)
 have hw:=y5d r.Headers ho_ (by omega) hf (by decide)
 have hfs:∀ x,x∈(r.Headers.filter fun x => !nmB ho_ x)→smH x:=fun x hx=>h6 x (List.mem_filter.1 hx).1
 have hfl:(r.Headers.filter fun x => !nmB ho_ x).length≤1000:=Nat.le_trans (List.length_filter_le _ _) (by omega)
 have hL:=z9q frB _ hfs
 have hfe:lnF frB (r.Headers.filter fun x => !nmB ho_ x)=lnF (owB true) r.Headers:=by
  rw [x5k]; rfl
 have hJ1:∀ x:Bs,x.length≤3000→Qh r (yk x)=some (x++(([32,72,84,84,80,47,49,46,49,13,10,104,111,115,116,58,32]++r.Host)++[13,10])++lnF (owB true) r.Headers++([13,10]++r.Body),0):=by
  intro x hx
  unfold Qh
  rw [if_pos (by simp; omega),if_pos (by simp; omega),wstr _ _ (by simp; omega)]
  simp only [Option.bind_some]
  rw [hw]
  simp only [Option.bind_some]
  rw [x5l _ _ hfl hfs (by simp; omega),hfe]
  simp only [Option.bind_some]
  rw [hfe] at hL
  rw [if_neg (by simpa using hb)]
  unfold z42
  rw [hb]
  rw [if_pos (by simp),wstr _ _ (by simp; omega)]
  simp only [Option.bind_some]
  rw [if_pos (y0x _),Wt]
 have e0:kk ([]:List Int) ((r.Method++[32])++r.Path)=some ((((r.Method++[32])++r.Path).length:Int),0,yk ((r.Method++[32])++r.Path)):=wstr [] _ (by simp; omega)
 have eP:z2i r=if decide (r.Query≠[]) then Qh r (yk (((r.Method++[32])++r.Path)++([63]++r.Query))) else Qh r (yk ((r.Method++[32])++r.Path)):=by
  unfold z2i
  rw [hc]
  simp only [Option.bind_some]
  rw [if_neg (by simp),if_pos (by simp; omega),if_pos (by simp; omega),e0]
  simp only [Option.bind_some]
  rw [if_pos (c:=[63].length+r.Query.length≤1000000000) (by simp; omega),wstr _ _ (by simp; omega)]
  rfl
 have hh:lnB (hoH r)=([104,111,115,116,58,32]++r.Host)++[13,10]:=by simp [lnB]
 rw [eP,List.flatMap_cons,hh,← y8t]
 unfold tgB
 by_cases hq:r.Query=[]
 ·have h0:decide (r.Query≠[])=false:=by simpa using hq
  rw [h0,if_pos hq]
  simp only [Bool.false_eq_true,if_false]
  rw [hJ1 _ (by simp; omega),hb]
  simp
 ·have h0:decide (r.Query≠[])=true:=by simpa using hq
  rw [h0,if_neg hq]
  simp only [if_true]
  rw [hJ1 _ (by simp; omega),hb]
  simp
theorem x3x {s:Bs} (h:rgB s 33 126=true):(32:UInt8) ∉ s∧(13:UInt8) ∉ s:=⟨y69 h 32 rfl,y69 h 13 rfl⟩
theorem y2i {s:Bs} (h:pthB s=true):s≠[]∧s.length≤1000∧rgB s 33 126=true∧(63:UInt8) ∉ s:=by
 unfold pthB at h
 simp only [Bool.and_eq_true,decide_eq_true_eq,Bool.not_eq_true'] at h
 refine ⟨fun hn => ?_,by omega,h.2.2.1,fun hm => ?_⟩
 ·rw [hn] at h; exact absurd h.2.1 (by decide)
 ·have:=h.2.2.2
  rw [v1t,List.any_eq_false] at this
  exact this 63 hm (by decide)
theorem y7d {s:Bs} (h:qryB s=true):s.length≤1000∧rgB s 33 126=true:=by
 unfold qryB at h
 simp only [Bool.and_eq_true,decide_eq_true_eq] at h
 exact ⟨by omega,h.2.1⟩
theorem w09 {r:zw} (hp:pthB r.Path=true) (hq:qryB r.Query=true):(32:UInt8) ∉ tgB r∧(13:UInt8) ∉ tgB r∧tgB r≠[]∧(tgB r).length≤2001:=by
 obtain ⟨p1,p2,p3,p4⟩:=y2i hp
 obtain ⟨q1,q2⟩:=y7d hq
 obtain ⟨a1,a2⟩:=x3x p3
 obtain ⟨b1,b2⟩:=x3x q2
 unfold tgB
 split
 ·exact ⟨a1,a2,p1,by omega⟩
 ·refine ⟨?_,?_,by simp,by simp; omega⟩
  ·simp only [List.mem_append,List.mem_cons,not_or]; exact ⟨a1,by decide,b1⟩
  ·simp only [List.mem_append,List.mem_cons,not_or]; exact ⟨a2,by decide,b2⟩
theorem w1a {r:zw} (hp:pthB r.Path=true):∃ b,Lib.cut (tgB r) [63]=(r.Path,r.Query,b):=by
 obtain ⟨p1,p2,p3,p4⟩:=y2i hp
 unfold tgB
 split
 ·rename_i h
  rw [z64 63 _ p4,h]
  exact ⟨_,rfl⟩
 ·rw [z3t 63 _ _ p4]
  exact ⟨_,rfl⟩
theorem w3v (r:zw) (l:List zg):yo ho_ (hoH r::rqL l)=[r.Host]∧yo cl_ (hoH r::rqL l)=[]∧yo te_ (hoH r::rqL l)=[]:=by
 have a1:nmB ho_ (hoH r)=true:=by show nmB ho_ ⟨ho_,_⟩=true; unfold nmB; simp
 have a2:nmB cl_ (hoH r)=false:=by show decide (lo ho_=lo cl_)=false; decide
 have a3:nmB te_ (hoH r)=false:=by show decide (lo ho_=lo te_)=false; decide
 have key:∀ n,(n=ho_∨n=cl_∨n=te_)→(rqL l).filter (nmB n)=[]:=by
  intro n hn
  rw [List.filter_eq_nil_iff]
  intro a ha
  have h1:=(List.mem_filter.1 ha).2
  have h2:owB true a=false:=by simpa using h1
  unfold owB frB at h2
  simp only [Bool.true_and,Bool.or_eq_false_iff] at h2
  rcases hn with rfl | rfl | rfl
  ·rw [h2.1]; simp
  ·rw [h2.2.1]; simp
  ·rw [h2.2.2]; simp
 unfold yo
 rw [List.filter_cons_of_pos a1,List.filter_cons_of_neg (by rw [a2]; simp),List.filter_cons_of_neg (by rw [a3]; simp),key _ (.inl rfl),key _ (.inr (.inl rfl)),key _ (.inr (.inr rfl))]
 exact ⟨rfl,rfl,rfl⟩
theorem w84 (l:List Bs) (h:l.length≤1000000000):Qq l []=some (l.any fun x=>decide ([]=x)):=
 y4q (p:=fun x=>some (decide ([]=x))) l _ h fun x _=>rfl
theorem w2u (s:Bs) (c:UInt8) (h:s.length≤1000000):vz s [c]=some (spl c s):=by
 unfold vz
 rw [if_pos ⟨by omega,by simp⟩,Wv]
theorem x9t (s:Bs) (hl:s.length≤1000000):z5r s=some (spl 32 s,!(spl 32 s).any fun x=>decide ([]=x)):=by
 unfold z5r
 rw [w2u s 32 hl]
 simp only [Option.bind_some]
 rw [w84 _ (by have:=z1r 32 s; omega)]
 rfl
theorem v1i (L:List zg) (h:∀ y,y∈L→hdOK y) (hl:L.length≤1000) (hte:yo te_ L=[]) (hcl:yo cl_ L=[]):z0n L []=some ([],(([]:Bs).length:Int),0):=by
 have v1:=(ki L cl_ hl (Wa h) ⟨rfl,by decide⟩).1
 have v2:=(ki L te_ hl (Wa h) ⟨rfl,by decide⟩).1
 rw [hcl] at v1
 rw [hte] at v2
 unfold z0n
 show (ve L te_).bind _=_
 rw [v2]
 simp only [Option.bind_some]
 rw [if_neg (by simp)]
 show (ve L cl_).bind _=_
 rw [v1]
 simp only [Option.bind_some]
 rw [if_pos (by simp)]
 rfl
theorem w33 (r:zw) (hr:rqP r) (hc:rqC r) (hb:r.Body=[]) (hl:r.Headers.length≤10) (ck:jk r=some 0) :
  ∃ t n,z2i r=some (t,0)∧z85 t=some (zw.mk 0 r.Method r.Host r.Path r.Query [] (rqL r.Headers) [],n,0):=by
 obtain ⟨c1,c2,c3,c4,c5,c6,c7,c8⟩:=hc
 have ho:=Zz c7
 have hfh:fldB r.Host=true:=(List.all_eq_true.1 w8v) _ hr.2.1
 have hhl:r.Host.length≤1000:=by
  have:jx.all (fun s=>decide (s.length≤1000))=true:=by decide +kernel
  simpa using (List.all_eq_true.1 this) _ hr.2.1
 have hml:=Ye c2
 obtain ⟨t1,t2,t3,t4⟩:=w09 c4 c5
 have hw:=x9q r hb hml hhl (y2i c4).2.1 (y7d c5).1 (by omega) ho ck
 have hLo:∀ y,y∈hoH r::rqL r.Headers→hdOK y:=fun y hy=>by
  rcases List.mem_cons.1 hy with h1 | h1
  ·rw [h1]; exact ⟨by show tokB ho_=true; decide +kernel,hfh⟩
  ·exact ho y (List.mem_filter.1 h1).1
 have hpl:(rqL r.Headers).length≤r.Headers.length:=List.length_filter_le _ _
 obtain ⟨v1,v2,v3⟩:=w3v r r.Headers
 have hplL:plH (hoH r::rqL r.Headers)=hoH r::rqL r.Headers:=by
  refine List.filter_eq_self.2 fun y hy => ?_
  rcases List.mem_cons.1 hy with h1 | h1
  ·rw [h1]
   have a2:nmB cl_ (hoH r)=false:=by show decide (lo ho_=lo cl_)=false; decide
   have a3:nmB te_ (hoH r)=false:=by show decide (lo ho_=lo te_)=false; decide
   unfold frB; rw [a2,a3]; rfl
  ·have h2:=(List.mem_filter.1 h1).2
   unfold owB at h2
   simp only [Bool.not_or,Bool.and_eq_true] at h2
   exact h2.2
 have hwo:(hoH r::rqL r.Headers).filter (fun x => !nmB ho_ x)=rqL r.Headers:=by
  have a1:nmB ho_ (hoH r)=true:=by show nmB ho_ ⟨ho_,_⟩=true; unfold nmB; simp
  rw [List.filter_cons_of_neg (by rw [a1]; simp)]
  refine List.filter_eq_self.2 fun y hy => ?_
  have h2:=(List.mem_filter.1 hy).2
  unfold owB at h2
  simp only [Bool.not_or,Bool.and_eq_true,Bool.true_and] at h2
  exact h2.1
 have h0:hdsE (rqL r.Headers)=0:=y0b (by omega) fun x hx=>ho x (List.mem_filter.1 hx).1
 generalize hL:hoH r::rqL r.Headers=L at *
 have hLl:L.length≤11:=by rw [← hL]; simp; omega
 have hfl:=z9q (fun _=>false) L fun y hy=>y11 (hLo y hy)
 have hfe:lnF (fun _=>false) L=L.flatMap lnB:=by unfold lnF; simp
 rw [hfe] at hfl
 have hfirst:(r.Method++32::(tgB r++32::httB)).length≤2200:=by simp; omega
 have h13:(13:UInt8) ∉ r.Method++32::(tgB r++32::httB):=by
  simp only [List.mem_append,List.mem_cons,not_or]
  exact ⟨y1p c2 13 (by decide),by decide,t2,by decide,by decide⟩
 have hspl:spl 32 (r.Method++32::(tgB r++32::httB))=[r.Method,tgB r,httB]:=by
  rw [y1x 32 _ _ (y1p c2 32 (by decide)),y1x 32 _ _ t1,y1w 32 httB (by decide)]
 have hmn:r.Method≠[]:=fun h=>by rw [h] at c2; exact absurd c2 (by decide)
 generalize hF:r.Method++32::(tgB r++32::httB)=first at *
 have hW:z5r first=some ([r.Method,tgB r,httB],true):=by
  rw [x9t first (by omega),hspl]
  simp [hmn,t3]
 have hq:(L.flatMap lnB++(crl++([]:Bs))).length≤50000:=by
  rw [List.length_append,List.length_append]
  have:crl.length=2:=rfl
  have:([]:Bs).length=0:=rfl
  omega
 have hhd:=x66 first (L.flatMap lnB++(crl++[])) [] L h13 (by simp at hq ⊢; omega) fun n hn=>by
  have:=y9k L [] n [] hLo (by have:=y8u L; rw [List.length_append] at hn; omega)
  simpa using this
 generalize hT:first++(crl++(L.flatMap lnB++(crl++[])))=t at *
 have htl:t.length≤60000:=by rw [← hT]; simp at hq ⊢; omega
 have hbd:=v1i L hLo (by omega) v3 v2
 obtain ⟨m,hm⟩:=x3y t first [] L 0 1 hLo (by omega) htl (List.nil_suffix) (by rw [v2,v3]; rfl) hbd
 rw [hplL] at hm
 have hck:jk (zw.mk 0 r.Method r.Host r.Path r.Query [] (rqL r.Headers) [])=some 0:=by
  refine x8q ⟨hr.1,hr.2.1,hr.2.2.1,hr.2.2.2.1,by simp,z6q (Zz h0) (by show (rqL r.Headers).length≤1000; omega)⟩ ⟨by show momP 0=true; decide,c2,c3,c4,c5,by show fldB []=true; decide,h0,by simp⟩
 have hval:=(ki L ho_ (by omega) (Wa hLo) ⟨rfl,by decide⟩).1
 rw [v1] at hval
 have hwt:=y5d L ho_ (by omega) (Wa hLo) (by decide)
 rw [hwo] at hwt
 obtain ⟨b,hcut⟩:=w1a (r:=r) c4
 refine ⟨t,m,hw,?_⟩
 unfold z85
 rw [if_neg (by simp; omega),hhd]
 simp only [Option.bind_some]
 rw [hW]
 simp only [Option.bind_some]
 rw [if_neg (by simp),if_neg (by simp),if_neg (by simp)]
 simp only [List.getElem?_cons_succ,List.getElem?_cons_zero,Option.bind_some]
 unfold z0c
 rw [if_neg (by simp),if_neg (by simp; omega)]
 show (ve L ho_).bind _=_
 rw [hval]
 simp only [Option.bind_some]
 rw [if_neg (by simp)]
 show (z2x _ _ 1).bind _=_
 rw [hm]
 simp only [Option.bind_some]
 rw [if_neg (by simp)]
 simp only [List.getElem?_cons_succ,List.getElem?_cons_zero,Option.bind_some]
 show (z0j L ho_).bind _=_
 rw [hwt]
 simp only [Option.bind_some]
 unfold vq
 rw [if_pos (by omega),hcut]
 simp only [Option.bind_some]
 rw [hck]
 rfl
theorem z7e {n:Nat} (name value:Bs) (c:yb) (h:haP n c.Headers∧c.Body.length≤100) (hn:n≤100) (h1:ascB name=true∧name.length≤3000) (h2:value.length≤30000):Ok (Yo name value c) fun r=>haP (n+1) r.Headers∧r.Body.length≤100:=by
 unfold Yo
 exact ok_g (by have:=h.1.1; omega) (yv ⟨y0c h.1 name value h1 h2,h.2⟩)
theorem v05 {k:Int} {s:zu} (h:SB k s) (hk:k≤5000):Ok (z9h s) fun r=>(haP 10 r.1.Headers∧r.1.Body.length≤100)∧SB (k+200) r.2:=by
 have hJ7:∀ (l:List zg) (b:Bs) (c:List Int) (a n:Int),haP 10 l∧b.length≤100→SB (k+200) (zu.mk c a)→Ok (z3g l b c a n) fun r=>(haP 10 r.1.Headers∧r.1.Body.length≤100)∧SB (k+200) r.2:=by
  intro l b c a n hl hs
  unfold z3g
  exact yv ⟨hl,hs⟩
 have hJ6:∀ (c:List Int) (a:Int) (l:List zg) (n:Int) (b:Bs),haP 6 l∧b.length≤100→SB (k+180) (zu.mk c a)→Ok (z3h c a l n b) fun r=>(haP 10 r.1.Headers∧r.1.Body.length≤100)∧SB (k+200) r.2:=by
  intro c a l n b hl hs
  unfold z3h
  refine yi (kh hs (by omega) 40 (by omega)) fun r hr=>wq (fun _ => ?_) (fun _=>hJ7 _ _ _ _ _ ⟨jy hl.1 (by omega),hl.2⟩ (hr.mono (by omega)))
  exact yi (w4y hr (by omega) 100 599 (by omega)) fun r2 h2=>hJ7 _ _ _ _ _ ⟨jy hl.1 (by omega),hl.2⟩ (h2.2.mono (by omega))
 have hJ5:∀ (c:List Int) (a:Int) (l:List zg) (n:Int) (b:Bs),haP 5 l∧b.length≤100→SB (k+100) (zu.mk c a)→Ok (z3i c a l n b) fun r=>(haP 10 r.1.Headers∧r.1.Body.length≤100)∧SB (k+200) r.2:=by
  intro c a l n b hl hs
  unfold z3i
  refine yi (kh hs (by omega) 30 (by omega)) fun r hr=>wq (fun _ => ?_) (fun _=>hJ6 _ _ _ _ _ ⟨jy hl.1 (by omega),hl.2⟩ (hr.mono (by omega)))
  refine yi (y1z hr (by omega) 3000 _ ⟨by simp,by simp⟩ (by decide +kernel)) fun r75 h75=>yi (y02 h75.2 (by omega) 12 (by omega) [44] (by simp) _ ⟨by simp,by simp⟩ (by decide)) fun r77 h77=>yi (xg h77.2 (by omega) 30000 _ ⟨by simp,by simp⟩ (by simp [h77.1])) fun r79 h79 => ?_
  exact yi (z7e r75.1 r79.1 (yb.mk n l b) hl (by omega) h75.1 h79.1) fun r81 h81=>hJ6 _ _ _ _ _ ⟨jy h81.1 (by omega),h81.2⟩ (h79.2.mono (by omega))
 have hJ4:∀ (c:List Int) (a:Int) (l:List zg) (n:Int) (b:Bs),haP 4 l∧b.length≤100→SB (k+90) (zu.mk c a)→Ok (z3j c a l n b) fun r=>(haP 10 r.1.Headers∧r.1.Body.length≤100)∧SB (k+200) r.2:=by
  intro c a l n b hl hs
  unfold z3j
  refine yi (kh hs (by omega) 6 (by omega)) fun r hr=>wq (fun _ => ?_) (fun _=>hJ5 _ _ _ _ _ ⟨jy hl.1 (by omega),hl.2⟩ (hr.mono (by omega)))
  exact yi (xg hr (by omega) 100 _ ⟨by simp,by simp⟩ (by decide)) fun r63 h63=>yi (z7e _ r63.1 (yb.mk n l b) hl (by omega) ⟨rfl,by simp⟩ (by have:=h63.1; omega)) fun r65 h65=>hJ5 _ _ _ _ _ ⟨jy h65.1 (by omega),h65.2⟩ (h63.2.mono (by omega))
 have hJ3:∀ (c:List Int) (a:Int) (l:List zg) (n:Int) (b:Bs),haP 3 l∧b.length≤100→SB (k+80) (zu.mk c a)→Ok (z3k c a l n b) fun r=>(haP 10 r.1.Headers∧r.1.Body.length≤100)∧SB (k+200) r.2:=by
  intro c a l n b hl hs
  unfold z3k
  refine yi (kh hs (by omega) 4 (by omega)) fun r hr=>wq (fun _ => ?_) (fun _=>hJ4 _ _ _ _ _ ⟨jy hl.1 (by omega),hl.2⟩ (hr.mono (by omega)))
  exact yi (xg hr (by omega) 100 _ ⟨by simp,by simp⟩ (by decide)) fun r51 h51=>yi (z7e _ r51.1 (yb.mk n l b) hl (by omega) ⟨rfl,by simp⟩ (by have:=h51.1; omega)) fun r53 h53=>hJ4 _ _ _ _ _ ⟨jy h53.1 (by omega),h53.2⟩ (h51.2.mono (by omega))
 have hJ2:∀ (c:List Int) (a:Int) (l:List zg) (n:Int) (b:Bs),haP 2 l∧b.length≤100→SB (k+60) (zu.mk c a)→Ok (z3l c a l n b) fun r=>(haP 10 r.1.Headers∧r.1.Body.length≤100)∧SB (k+200) r.2:=by
  intro c a l n b hl hs
  unfold z3l
  refine yi (kh hs (by omega) 2 (by omega)) fun r hr=>wq (fun _ => ?_) (fun _=>hJ3 _ _ _ _ _ ⟨jy hl.1 (by omega),hl.2⟩ (hr.mono (by omega)))
  exact yi (y1z hr (by omega) 3000 _ ⟨by simp,by simp⟩ (by decide +kernel)) fun r37 h37=>yi (xg h37.2 (by omega) 100 _ ⟨by simp,by simp⟩ (by decide)) fun r39 h39=>yi (z7e r37.1 r39.1 (yb.mk n l b) hl (by omega) h37.1 (by have:=h39.1; omega)) fun r41 h41=>hJ3 _ _ _ _ _ ⟨jy h41.1 (by omega),h41.2⟩ (h39.2.mono (by omega))
 have hJ1:∀ (c:List Int) (a:Int) (l:List zg) (n:Int) (b:Bs),haP 1 l∧b.length≤100→SB (k+50) (zu.mk c a)→Ok (z3m c a l n b) fun r=>(haP 10 r.1.Headers∧r.1.Body.length≤100)∧SB (k+200) r.2:=by
  intro c a l n b hl hs
  unfold z3m
  refine yi (kh hs (by omega) 3 (by omega)) fun r hr=>wq (fun _ => ?_) (fun _=>hJ2 _ _ _ _ _ ⟨jy hl.1 (by omega),hl.2⟩ (hr.mono (by omega)))
  exact yi (xg hr (by omega) 100 _ ⟨by simp,by simp⟩ (by decide)) fun r25 h25=>yi (z7e _ r25.1 (yb.mk n l b) hl (by omega) ⟨rfl,by simp⟩ (by have:=h25.1; omega)) fun r27 h27=>hJ2 _ _ _ _ _ ⟨jy h27.1 (by omega),h27.2⟩ (h25.2.mono (by omega))
 unfold z9h
 refine yi (y7f h (by omega) _ ⟨by simp,by simp⟩) fun r2 h2=>yi (x35 _ _ ⟨by omega,by omega,by simp⟩) fun r4 h4=>yi (xg h2.2 (by omega) 100 _ ⟨by simp,by simp⟩ (by simp [h4,Lib.repeatL])) fun r6 h6=>yi (kh h6.2 (by omega) 6 (by omega)) fun r8 h8=>wq (fun _ => ?_) (fun _=>hJ1 _ _ _ _ _ ⟨y38 1,by have:=h6.1; omega⟩ (h8.mono (by omega)))
 exact yi (y1z h8 (by omega) 3000 _ ⟨by simp,by simp⟩ (by decide +kernel)) fun r11 h11=>yi (v0r h11.2 (by omega)) fun r13 h13=>yi (z7e r11.1 r13.1 (yb.mk r2.1 [] r6.1) ⟨y38 0,by have:=h6.1; exact this⟩ (by omega) h11.1 h13.1) fun r15 h15=>hJ1 _ _ _ _ _ ⟨jy h15.1 (by omega),h15.2⟩ (h13.2.mono (by omega))
theorem x8u {k:Int} {s:zu} (h:SB k s) (hk:k≤50000) (v:Int):Ok (z9i s v) fun r=>(rqS r.1∧r.1.Body=[]∧r.1.Headers.length≤10∧r.1.At=v)∧SB (k+400) r.2:=by
 have hJ5:∀ (r3 r5:Bs×zu) (l:List zg) (c:List Int) (a:Int) (p q:Bs),r3.1.length≤100→r5.1∈jx→p.length≤100000→q.length≤100000∧qOK q→haP 5 l→SB (k+400) (zu.mk c a)→Ok (z3n v r3 r5 l c a p q) fun r=>(rqS r.1∧r.1.Body=[]∧r.1.Headers.length≤10∧r.1.At=v)∧SB (k+400) r.2:=by
  intro r3 r5 l c a p q h1 h2 h3 h4 h5 hs
  unfold z3n
  exact yv ⟨⟨⟨⟨⟨by show r3.1.length≤_; omega,h2,h3,h4.1,by simp,x68 h5 (by omega)⟩,jy h5 (by omega)⟩,h4.2⟩,rfl,by have:=h5.1; show l.length≤10; omega,rfl⟩,hs⟩
 have hJ4:∀ (r3 r5 r7 r9:Bs×zu) (c:List Int) (a:Int) (l:List zg),r3.1.length≤100→r5.1∈jx→r7.1.length≤100→r9.1.length≤100∧qOK r9.1→haP 5 l→SB (k+100) (zu.mk c a)→Ok (z3o v r3 r5 r7 r9 c a l) fun r=>(rqS r.1∧r.1.Body=[]∧r.1.Headers.length≤10∧r.1.At=v)∧SB (k+400) r.2:=by
  intro r3 r5 r7 r9 c a l h1 h2 h3 h4 h5 hs
  unfold z3o
  refine yi (kh hs (by omega) 40 (by omega)) fun r hr=>wq (fun _ => ?_) (fun _=>hJ5 _ _ _ _ _ _ _ h1 h2 (by omega) ⟨by omega,h4.2⟩ h5 (hr.mono (by omega)))
  exact yi (w4o hr (by omega)) fun r50 h50=>yi (w4d h50.2 (by omega)) fun r52 h52=>hJ5 _ _ _ _ _ _ _ h1 h2 h50.1 ⟨by have:=h52.1.1; omega,h52.1.2⟩ h5 (h52.2.mono (by omega))
 have hJ3:∀ (r3 r5 r7 r9:Bs×zu) (c:List Int) (a:Int) (l:List zg),r3.1.length≤100→r5.1∈jx→r7.1.length≤100→r9.1.length≤100∧qOK r9.1→haP 4 l→SB (k+80) (zu.mk c a)→Ok (z3p v r3 r5 r7 r9 c a l) fun r=>(rqS r.1∧r.1.Body=[]∧r.1.Headers.length≤10∧r.1.At=v)∧SB (k+400) r.2:=by
  intro r3 r5 r7 r9 c a l h1 h2 h3 h4 h5 hs
  unfold z3p
  refine yi (kh hs (by omega) 8 (by omega)) fun r hr=>wq (fun _ => ?_) (fun _=>hJ4 _ _ _ _ _ _ _ h1 h2 h3 h4 (jy h5 (by omega)) (hr.mono (by omega)))
  exact yi (xg hr (by omega) 100 _ ⟨by simp,by simp⟩ (by decide)) fun r41 h41=>ok_g (by have:=h5.1; omega) (hJ4 _ _ _ _ _ _ _ h1 h2 h3 h4 (jy (y0c h5 _ _ ⟨rfl,by simp⟩ (by have:=h41.1; omega)) (by omega)) (h41.2.mono (by omega)))
 have hJ2:∀ (r3 r5 r7 r9:Bs×zu) (c:List Int) (a:Int) (l:List zg),r3.1.length≤100→r5.1∈jx→r7.1.length≤100→r9.1.length≤100∧qOK r9.1→haP 3 l→SB (k+70) (zu.mk c a)→Ok (z3q v r3 r5 r7 r9 c a l) fun r=>(rqS r.1∧r.1.Body=[]∧r.1.Headers.length≤10∧r.1.At=v)∧SB (k+400) r.2:=by
  intro r3 r5 r7 r9 c a l h1 h2 h3 h4 h5 hs
  unfold z3q
  refine yi (kh hs (by omega) 12 (by omega)) fun r hr=>wq (fun _ => ?_) (fun _=>hJ3 _ _ _ _ _ _ _ h1 h2 h3 h4 (jy h5 (by omega)) (hr.mono (by omega)))
  exact ok_g (by have:=h5.1; omega) (hJ3 _ _ _ _ _ _ _ h1 h2 h3 h4 (jy (y0c h5 _ _ ⟨rfl,by simp⟩ (by simp)) (by omega)) (hr.mono (by omega)))
 have hJ1:∀ (r3 r5 r7 r9:Bs×zu) (c:List Int) (a:Int) (l:List zg),r3.1.length≤100→r5.1∈jx→r7.1.length≤100→r9.1.length≤100∧qOK r9.1→haP 2 l→SB (k+30) (zu.mk c a)→Ok (z3r v r3 r5 r7 r9 c a l) fun r=>(rqS r.1∧r.1.Body=[]∧r.1.Headers.length≤10∧r.1.At=v)∧SB (k+400) r.2:=by
  intro r3 r5 r7 r9 c a l h1 h2 h3 h4 h5 hs
  unfold z3r
  refine yi (kh hs (by omega) 4 (by omega)) fun r hr=>wq (fun _ => ?_) (fun _=>hJ2 _ _ _ _ _ _ _ h1 h2 h3 h4 (jy h5 (by omega)) (hr.mono (by omega)))
  exact yi (v1o hr (by omega)) fun r25 h25=>ok_g (by have:=h5.1; omega) (hJ2 _ _ _ _ _ _ _ h1 h2 h3 h4 (jy (y0c h5 _ _ ⟨rfl,by simp⟩ h25.1) (by omega)) (h25.2.mono (by omega)))
 unfold z9i
 refine yi (xg h (by omega) 100 _ ⟨by simp,by simp⟩ (by decide)) fun r3 h3=>yi (Qd h3.2 (by omega) _ ⟨by simp,by simp⟩) fun r5 h5=>yi (xg h5.2 (by omega) 100 _ ⟨by simp,by simp⟩ (by decide)) fun r7 h7=>yi (Qd h7.2 (by omega) _ ⟨by simp,by simp⟩) fun r9 h9=>yi (kh h9.2 (by omega) 3 (by omega)) fun r11 h11 => ?_
 have h9q:r9.1.length≤100∧qOK r9.1:=by
  have hm:=h9.1
  simp only [List.mem_cons,List.not_mem_nil,or_false] at hm
  rcases hm with e | e | e | e <;> rw [e] <;> exact ⟨by decide,.inl (by decide)⟩
 have hh:r5.1∈jx:=(show ∀ x,x∈([[97,46,98],[97,46,98],[65,46,66,58,56,48],[99,46,100]]:List Bs)→x∈jx by decide +kernel) _ h5.1
 refine wq (fun _ => ?_) (fun _=>hJ1 _ _ _ _ _ _ _ h3.1 hh h7.1 h9q (y38 2) (h11.mono (by omega)))
 exact yi (y1z h11 (by omega) 3000 _ ⟨by simp,by simp⟩ (by decide +kernel)) fun r14 h14=>yi (xg h14.2 (by omega) 100 _ ⟨by simp,by simp⟩ (by decide)) fun r16 h16=>ok_g (by simp) (hJ1 _ _ _ _ _ _ _ h3.1 hh h7.1 h9q (jy (y0c (y38 0) _ _ h14.1 (by have:=h16.1; omega)) (by omega)) (h16.2.mono (by omega)))
def spT (c:UInt8):Bool:=c == 32 || c == 44
theorem w2x:(fun c:UInt8=>(z0t (c.toNat:Int)).getD false)=spT:=by
 funext c
 have:=jg (fun c=>decide ((z0t (c.toNat:Int)).getD false=spT c)) (by decide +kernel) c
 exact of_decide_eq_true this
theorem y4t (p:UInt8→Bool) (B:Nat):∀ (l cur:Bs),cur.length+l.length≤B→∀ x,x∈ffGo p cur l→x.length≤B
 | [],cur,h,x,hx=>by
  unfold ffGo at hx
  split at hx
  ·cases hx
  ·obtain rfl:x=cur:=by simpa using hx
   simp at h; omega
 | c::l,cur,h,x,hx=>by
  simp only [List.length_cons] at h
  unfold ffGo at hx
  split at hx
  ·split at hx
   ·exact y4t p B l [] (by simp; omega) x hx
   ·rcases List.mem_cons.1 hx with rfl | hx
    ·omega
    ·exact y4t p B l [] (by simp; omega) x hx
  ·exact y4t p B l (cur++[c]) (by simp; omega) x hx
theorem x71 (p:UInt8→Bool) (l:Bs):(ffGo p [] l).length≤l.length:=by
 have:=y98 p l []
 simpa using this
theorem y4s (p:UInt8→Bool) (hp:p 32=true) (b:Bs):∀ (a cur:Bs),ffGo p cur (a++32::b)=ffGo p cur a++ffGo p [] b
 | [],cur=>by
  rw [List.nil_append]
  conv=>lhs; unfold ffGo
  rw [if_pos hp]
  conv=>rhs; arg 1; unfold ffGo
  split <;> simp
 | c::a,cur=>by
  rw [List.cons_append]
  conv=>lhs; unfold ffGo
  conv=>rhs; arg 1; unfold ffGo
  split
  ·split
   ·exact y4s p hp b a []
   ·rw [y4s p hp b a []]; rfl
  ·exact y4s p hp b a (cur++[c])
theorem x6t (x y:Bs) (l:List Bs):Lib.join (x::y::l) [32]=x++32::Lib.join (y::l) [32]:=by
 rw [show Lib.join (x::y::l) [32]=x++([32]++Lib.join (y::l) [32]) from rfl]; rfl
theorem x72 (p:UInt8→Bool) (hp:p 32=true):∀ V:List Bs,ffGo p [] (Lib.join V [32])=(V.map (ffGo p [])).flatten
 | []=>rfl
 | [x]=>by simp [Lib.join]
 | x::y::l=>by
  rw [x6t,y4s p hp,x72 p hp (y::l)]; rfl
theorem x6s:∀ (V:List Bs) (c:UInt8),c∈Lib.join V [32]→c=32∨∃ v,v∈V∧c∈v
 | [],c,h=>by cases h
 | [x],c,h => .inr ⟨x,by simp,by simpa [Lib.join] using h⟩
 | x::y::l,c,h=>by
  rw [x6t] at h
  rcases List.mem_append.1 h with h | h
  ·exact .inr ⟨x,by simp,h⟩
  ·rcases List.mem_cons.1 h with h | h
   ·exact .inl h
   ·rcases x6s (y::l) c h with h | ⟨v,h1,h2⟩
    ·exact .inl h
    ·exact .inr ⟨v,List.mem_cons_of_mem _ h1,h2⟩
def r44 (c:UInt8):UInt8:=if c=44 then 32 else c
theorem y7c:∀ s:Bs,(44:UInt8) ∉ s→s.map r44=s
 | [],_=>rfl
 | x::s,h=>by
  have h1:x≠44:=fun e=>h (by simp [e])
  have h2:=y7c s (fun e=>h (by simp [e]))
  rw [List.map_cons,h2,show r44 x=x from if_neg h1]
theorem w36:∀ (n:Nat) (s:Bs),s.length≤n→Lib.replaceK [44] [32] (Lib.count s [44]) s=s.map r44:=by
 intro n
 induction n with
 | zero=>intro s h; obtain rfl:s=[]:=List.length_eq_zero_iff.1 (by omega); rw [Lib.count_miss (by rfl)]; rfl
 | succ n ih =>
  intro s h
  rcases z04 44 s with h1 | ⟨p,q,rfl,h1⟩
  ·rw [Lib.count_miss (y31 44 s h1),y7c s h1]; rfl
  ·have hi:=y32 44 q p h1
   have hd:(p++44::q).drop (p.length+1)=q:=by rw [← List.drop_drop]; simp
   rw [Lib.count_hit (by simp) hi,Nat.add_comm 1,Lib.replaceK_hit _ _ _ _ _ hi]
   simp only [List.length_cons,List.length_nil,Nat.zero_add]
   rw [hd,ih q (by simp at h; omega),List.map_append,List.map_cons,y7c p h1]
   simp [r44]
theorem w37 (s:Bs):Lib.replaceAll s [44] [32]=s.map r44:=by
 unfold Lib.replaceAll Lib.replace Lib.replaceNum
 rw [if_neg (by decide),if_pos (.inl (by decide))]
 exact w36 s.length s (Nat.le_refl _)
theorem y95:∀ (l cur:Bs),Lib.fieldsGo cur l=ffGo Lib.isSp cur l
 | [],cur=>rfl
 | c::l,cur=>by
  unfold Lib.fieldsGo ffGo
  rw [y95 l [],y95 l (cur++[c])]
theorem w8k (c:UInt8) (h:outP (c.toNat:Int) 32 126=false):Lib.isSp (r44 c)=spT c∧(spT c=false→r44 c=c):=by
 have:=jg (fun c=>outP (c.toNat:Int) 32 126 || (decide (Lib.isSp (r44 c)=spT c) && (spT c || decide (r44 c=c)))) (by decide +kernel) c
 rw [h] at this
 simp only [Bool.false_or,Bool.and_eq_true,decide_eq_true_eq,Bool.or_eq_true] at this
 refine ⟨this.1,fun e => ?_⟩
 rcases this.2 with h | h
 ·rw [e] at h; cases h
 ·exact h
theorem y97:∀ (l cur:Bs),rgB l 32 126=true→ffGo Lib.isSp cur (l.map r44)=ffGo spT cur l
 | [],cur,h=>rfl
 | c::l,cur,h=>by
  unfold rgB at h
  rw [List.all_cons,Bool.and_eq_true] at h
  have hc:outP (c.toNat:Int) 32 126=false:=by simpa using h.1
  obtain ⟨h1,h2⟩:=w8k c hc
  have i1:=y97 l [] h.2
  have i2:=y97 l (cur++[c]) h.2
  rw [List.map_cons]
  unfold ffGo
  rw [h1,i1]
  cases hs:spT c
  ·rw [h2 hs,i2]
  ·rfl
def tgN:Bs:=[99,97,99,104,101,45,116,97,103]
def tgL (V:List Bs):List Bs:=(V.map (ffGo spT [])).flatten
def tgR (T:List Bs):List Bs×Int:=if T.all keyP then (if 20 < ((setB T).length:Int) then ([],2) else (setB T,0)) else ([],5)
theorem x1w:∀ V:List Bs,(∀ v,v∈V→v.length≤2000)→(tgL V).length≤2000 * V.length
 | [],_=>by simp [tgL]
 | v::V,h=>by
  have h1:=x1w V fun x hx=>h x (List.mem_cons_of_mem _ hx)
  have h2:=x71 spT v
  have h3:=h v (by simp)
  unfold tgL at h1 ⊢
  rw [List.map_cons,List.flatten_cons,List.length_append,List.length_cons]
  omega
theorem w1b {V:List Bs} (h:∀ v,v∈V→v.length≤2000):∀ x,x∈tgL V→x.length≤2000:=fun x hx=>by
 unfold tgL at hx
 obtain ⟨l,h1,h2⟩:=List.mem_flatten.1 hx
 obtain ⟨v,h3,rfl⟩:=List.mem_map.1 h1
 exact y4t spT 2000 v [] (by have:=h v h3; simpa using this) x h2
theorem w96 {v:Bs} (h:ascB v=true) (hl:v.length≤1000000000):z5d v (fun (a0:Int)=>z0t a0)=some (ffGo spT [] v):=by
 unfold z5d
 rw [if_pos ⟨h,hl,fun c=>rfl⟩]
 rw [show (fun c:UInt8=>((fun (a0:Int)=>z0t a0) (c.toNat:Int)).getD false)=spT from w2x]
theorem tagP:∀ (V:List Bs) (k:Nat) (q:List Bs),(∀ v,v∈V→v.length≤2000∧ascB v=true)→q.length+2000 * V.length≤100000000→forL (fun (k:Nat) (x:Bs) (s:(List Bs))=>z3w k x s) (fun (s:(List Bs))=>z68 s) k V q=z68 (q++tgL V)
 | [],k,q,_,_=>by simp [forL,tgL]
 | v::V,k,q,h,hl=>by
  have h1:=h v (by simp)
  have h2:=x71 spT v
  simp only [List.length_cons] at hl
  have e:z3w k v q=some (.inl (q++ffGo spT [] v)):=by
   unfold z3w
   rw [w96 h1.2 (by omega)]
   simp only [Option.bind_some]
   rw [if_pos (by omega)]
  show (z3w k v q).bind _=_
  rw [e]
  have:=tagP V (k+1) (q++ffGo spT [] v) (fun x hx=>h x (List.mem_cons_of_mem _ hx)) (by rw [List.length_append]; omega)
  rw [show q++tgL (v::V)=(q++ffGo spT [] v)++tgL V from by simp [tgL]]
  exact this
theorem x5r (x:Bs) (h:x.length≤2000):z2n x=some (keyP x)∧y3f x=some (keyP x):=⟨w8l x (by omega),w59 x (by omega)⟩
theorem tagA (E:Unit→Option (List Bs×Int)):∀ (l pre:List Bs),(∀ x,x∈l→x.length≤2000)→rng (fun (k:Nat) (s:Unit)=>z3v (pre++l) k) E l.length pre.length ()=if l.all keyP then E () else some ([],5)
 | [],pre,_=>rfl
 | x::l,pre,h=>by
  have e1:(pre++x::l)[pre.length]?=some x:=by simp
  have hx:=h x (by simp)
  have e:z3v (pre++x::l) pre.length=if keyP x then some (.inl ()) else some (.inr ([],5)):=by
   unfold z3v
   rw [e1]
   simp only [Option.bind_some]
   rw [(x5r x hx).1]
   cases keyP x <;> rfl
  have ih:=tagA E l (pre++[x]) fun y hy=>h y (List.mem_cons_of_mem _ hy)
  rw [show (pre++[x])++l=pre++x::l by simp,show (pre++[x]).length=pre.length+1 by simp] at ih
  show (z3v (pre++x::l) pre.length).bind _=_
  rw [e,List.all_cons]
  cases keyP x
  ·rfl
  ·exact ih
theorem tagB:∀ (l:List Bs) (k:Nat) (q:List Bs),(∀ x,x∈l→x.length≤2000)→q.length+l.length≤100000000→forL (fun (k:Nat) (x:Bs) (s:(List Bs))=>y0k k x s) (fun (s:(List Bs))=>y0l s) k l q=if l.all keyP then y0l (q++l) else some ([],5)
 | [],k,q,_,_=>by simp [forL]
 | x::l,k,q,h,hl=>by
  simp only [List.length_cons] at hl
  have hx:=h x (by simp)
  have e:y0k k x q=if keyP x then some (.inl (q++[x])) else some (.inr ([],5)):=by
   unfold y0k
   rw [(x5r x hx).2]
   simp only [Option.bind_some]
   rw [if_pos (by omega:q.length+1≤1000000000)]
   cases keyP x <;> rfl
  have ih:=tagB l (k+1) (q++[x]) (fun y hy=>h y (List.mem_cons_of_mem _ hy)) (by simp; omega)
  show (y0k k x q).bind _=_
  rw [e,List.all_cons]
  cases keyP x
  ·rfl
  ·rw [show q++x::l=(q++[x])++l by simp]; exact ih
theorem w1d (a:yb) (h0:hdsE a.Headers=0) (h2:∀ x,x∈a.Headers→nmOK x):z9k a=some (tgR (tgL (yo tgN a.Headers)))∧x5e a=some (tgR (tgL (yo tgN a.Headers))):=by
 have hl:=xl h0
 have hv:=ki a.Headers tgN (by omega) h2 ⟨rfl,by decide⟩
 have hf:∀ v,v∈yo tgN a.Headers→fldB v=true:=fun v hv=>by
  unfold yo at hv
  obtain ⟨x,hx,rfl⟩:=List.mem_map.1 hv
  exact (z3b h0 x (List.mem_filter.1 hx).1).2
 have hV:(yo tgN a.Headers).length≤50:=by
  unfold yo
  rw [List.length_map]
  have:=List.length_filter_le (nmB tgN) a.Headers
  omega
 unfold z9k x5e
 rw [show ve a.Headers [99,97,99,104,101,45,116,97,103]=some (yo tgN a.Headers) from hv.1,show Ze a.Headers [99,97,99,104,101,45,116,97,103]=some (yo tgN a.Headers) from hv.2]
 simp only [Option.bind_some]
 generalize yo tgN a.Headers=V at *
 have hvl:∀ v,v∈V→v.length≤2000:=fun v h=>Wd (hf v h)
 have hva:∀ v,v∈V→ascB v=true:=fun v h=>y2b (y94 (hf v h))
 have hTl:=x1w V hvl
 have hTm:=w1b hvl
 have hJl:=z0x 2000 [32] V hvl
 have hJl:(Lib.join V [32]).length≤110000:=by
  have h50:V.length * (2000+([32]:Bs).length)≤50 * 2001:=Nat.mul_le_mul hV (by decide)
  omega
 have hJr:rgB (Lib.join V [32]) 32 126=true:=by
  unfold rgB
  refine List.all_eq_true.2 fun c hc => ?_
  rcases x6s V c hc with rfl | ⟨v,h1,h2⟩
  ·decide
  ·have:=y94 (hf v h1)
   unfold rgB at this
   exact List.all_eq_true.1 this c h2
 have hmapa:ascB ((Lib.join V [32]).map r44)=true:=by
  have:=y2b hJr
  unfold ascB at this ⊢
  rw [List.all_map]
  refine List.all_eq_true.2 fun c hc => ?_
  have h1:=List.all_eq_true.1 this c hc
  simp only [Function.comp_apply,r44]
  split
  ·decide
  ·exact h1
 have hF:Lib.fields ((Lib.join V [32]).map r44)=tgL V:=by
  unfold Lib.fields tgL
  rw [y95,y97 _ _ hJr,x72 spT (by decide)]
 have hE:(Qt (tgL V)).bind (fun (r12:((List Bs)))=>if decide (20 < (r12.length:Int)) then (some (([]:List Bs),(2:Int))) else (some (r12,0)))=some (if 20 < ((setB (tgL V)).length:Int) then ([],2) else (setB (tgL V),0)):=by
  unfold Qt jj
  rw [if_pos (by omega)]
  simp only [Option.bind_some]
  rw [y1y (tgL V) (by omega)]
  simp only [Option.bind_some]
  by_cases h:20 < ((setB (tgL V)).length:Int) <;> simp [h]
 have hE':y0l (tgL V)=some (if 20 < ((setB (tgL V)).length:Int) then ([],2) else (setB (tgL V),0)):=by
  unfold y0l
  rw [y1y (tgL V) (by omega)]
  by_cases h:20 < ((setB (tgL V)).length:Int) <;> simp [h]
 constructor
 ·rw [if_pos (by omega),tagP V 0 [] (fun v h=>⟨hvl v h,hva v h⟩) (by simp; omega),List.nil_append]
  unfold z68
  rw [if_pos (by omega)]
  have:=tagA (fun (s:Unit)=>y0w (tgL V)) (tgL V) [] hTm
  rw [List.nil_append] at this
  refine this.trans ?_
  unfold tgR y0w
  rw [hE]
  cases (tgL V).all keyP <;> rfl
 ·unfold ji y20 x44
  rw [if_pos ⟨by omega,by omega⟩]
  simp only [Option.bind_some]
  rw [if_pos ⟨by omega,by decide,by decide⟩]
  simp only [Option.bind_some]
  rw [w37,if_pos ⟨hmapa,by rw [List.length_map]; omega⟩]
  simp only [Option.bind_some]
  rw [hF,if_pos (by omega),tagB (tgL V) 0 [] hTm (by simp; omega),List.nil_append,hE']
  unfold tgR
  cases (tgL V).all keyP <;> rfl
theorem w99:z9a=some true:=by
 have hk:=w6a
 unfold y8f at hk
 have hs:=w2t
 unfold y8e at hs
 obtain ⟨a,a1,a2⟩:=bnd hk
 obtain ⟨b,b1,b2⟩:=bnd hs
 simp only [Option.some.injEq,Bool.and_eq_true,decide_eq_true_eq] at a2 b2
 have h3:y2z [jd.mk [97] 1] 2=some ([[97],[97]],0):=by decide +kernel
 have h4:z8x [97,98]=some [89,87,73]:=by
  unfold z8x
  exact Zy.2 ⟨3,by decide +kernel⟩
 unfold z9a Ya
 rw [a1,b1,h3,h4]
 simp [a2.1,a2.2,b2.1,b2.2]
theorem y7j (l:List zg) (h0:hdsE l=0) (h2:∀ x,x∈l→nmOK x):∃ r,km l=some r∧(r.2=0→cB r.1)∧(r.2=0∨r.2=9):=by
 have hcnt:=xl h0
 obtain ⟨r,r1,_,r2⟩:=w4t l h0 h2
 have hv:=ki l ccL (by omega) h2 ⟨rfl,by decide⟩
 have hV:=z7i h0 ccL
 have hp1:=z4m _ hV
 have hpl:=y2h _ hV
 have key:Ok (km l) fun r=>r.2=0∨r.2=9:=by
  rw [y2l]
  unfold z08
  show Ok ((ve l ccL).bind _) _
  rw [hv.1]
  simp only [Option.bind_some]
  rw [hp1]
  simp only [Option.bind_some]
  refine ok_g (by omega) ?_
  refine z4p (fun _ (s:Tst)=>True) (ptsB (yo ccL l)) 0 c0 trivial (fun j x s _ hx hs => ?_) (fun s hs => ?_)
  ·obtain ⟨v,hv1,hv2,_⟩:=y2g (List.mem_of_getElem? hx)
   have hvl:=hV.2 v hv1
   have a:=y2m j x (tc s) (by omega)
   refine ⟨stT (tc s) x,a,?_⟩
   unfold stT
   cases ht:(kj (tc s) x).1
   ·exact .inr rfl
   ·exact trivial
  ·exact yv (.inl rfl)
 obtain ⟨q,q1,q2⟩:=key
 rw [r1] at q1
 cases q1
 exact ⟨r,r1,r2,q2⟩
theorem Zp {l:List zg} (h0:hdsE l=0):∀ x,x∈l→nmOK x:=fun x hx=>⟨Zl (z3b h0 x hx).1,by have:=Ye (z3b h0 x hx).1; omega⟩
def auW:Bs:=[97,117,116,104,111,114,105,122,97,116,105,111,110]
def etW:Bs:=[101,116,97,103]
theorem v0s (l:List Int) (v:Int) (h:l.length≤1000000):∃ b,y23 l v=some b:=
 ⟨_,y4q (p:=fun x=>some (decide (v=x))) l (fun x=>decide (v=x)) (by omega) fun x hx=>rfl⟩
theorem w2p (r:zw) (a:yb) (h1:hdsE r.Headers=0) (h2:hdsE a.Headers=0):∃ q c V,z5y r a=some q∧km a.Headers=some c∧xk a=some V∧(q.2=0→(c.2=0∧cB c.1)∧V.2.2=0)∧(q.1=true→r.Method=[71,69,84]∨r.Method=[72,69,65,68]):=by
 have n1:=Zp h1
 have n2:=Zp h2
 have l1:=xl h1
 have l2:=xl h2
 obtain ⟨p,p1,p2,p3⟩:=y7j r.Headers h1 n1
 obtain ⟨c,c1,c2,c3⟩:=y7j a.Headers h2 n2
 have hv:=(x1a a h2 n2).1
 have ha:=(ki r.Headers auW (by omega) n1 ⟨rfl,by decide⟩).1
 have he:=(ki a.Headers etW (by omega) n2 ⟨rfl,by decide⟩).1
 obtain ⟨k,hk⟩:=v0s [200,203,204,300,301,404,410] a.Status (by decide)
 have key:∃ q,z5y r a=some q∧(q.2=0→(c.2=0∧cB c.1)∧(vyL (ptsB (yo vyN a.Headers))).2.2=0)∧(q.1=true→r.Method=[71,69,84]∨r.Method=[72,69,65,68]):=by
  unfold z5y
  rw [p1]
  simp only [Option.bind_some]
  by_cases e1:p.2=0
  ·rw [if_neg (by simpa using e1),c1]
   simp only [Option.bind_some]
   by_cases e2:c.2=0
   ·rw [if_neg (by simpa using e2),hv]
    simp only [Option.bind_some]
    generalize vyL (ptsB (yo vyN a.Headers))=V at *
    by_cases e3:V.2.2=0
    ·rw [if_neg (by simpa using e3)]
     have hlt:=x5i (c2 e2)
     have hau:Qw r.Headers [97,117,116,104,111,114,105,122,97,116,105,111,110]=some (decide (0 < ((yo auW r.Headers).length:Int))):=by
      unfold Qw
      rw [show ve r.Headers [97,117,116,104,111,114,105,122,97,116,105,111,110]=some (yo auW r.Headers) from ha]; rfl
     have het:Qw a.Headers [101,116,97,103]=some (decide (0 < ((yo etW a.Headers).length:Int))):=by
      unfold Qw
      rw [show ve a.Headers [101,116,97,103]=some (yo etW a.Headers) from he]; rfl
     rw [hau]
     simp only [Option.bind_some,y3i]
     have good:∀ o:Option (Bool×Int),(∃ v:Bool,o=some (v,0))→(∃ q,o=some q∧(q.2=0→(c.2=0∧cB c.1)∧V.2.2=0)∧(q.1=true→True)):=by
      rintro o ⟨v,rfl⟩
      exact ⟨_,rfl,fun _=>⟨⟨e2,c2 e2⟩,e3⟩,fun _=>trivial⟩
     by_cases g1:r.Method=[71,69,84]∨r.Method=[72,69,65,68]
     ·rw [if_pos (by simpa using g1)]
      unfold y3j
      rw [hk]
      simp only [Option.bind_some]
      have:∃ v:Bool,(if k then (if !p.1.NoStore then (if !c.1.NoStore then (if !c.1.Private then (if !(((decide (0 < ((yo auW r.Headers).length:Int)) && (!c.1.Public)) && (!c.1.Must)) && (decide (c.1.Shared=(-1)))) then (if !V.2.1 then ((Yp c.1).bind fun (r32:(Int))=>if decide (0 < r32) then (ka true) else ((Qw a.Headers [101,116,97,103]).bind fun (r36:(Bool))=>ka r36)) else (ka false)) else (ka false)) else (ka false)) else (ka false)) else (ka false)) else (ka false))=some (v,0):=by
       rw [hlt.1,het]
       simp only [Option.bind_some]
       unfold ka
       repeat' split
       all_goals exact ⟨_,rfl⟩
      obtain ⟨v,hv'⟩:=this
      exact ⟨(v,0),hv',fun _=>⟨⟨e2,c2 e2⟩,e3⟩,fun _=>g1⟩
     ·rw [if_neg (by simpa using g1)]
      exact ⟨(false,0),rfl,fun _=>⟨⟨e2,c2 e2⟩,e3⟩,fun h=>by cases h⟩
    ·rw [if_pos (by simpa using e3)]
     exact ⟨_,rfl,fun h=>absurd h e3,fun h=>by cases h⟩
   ·rw [if_pos (by simpa using e2)]
    exact ⟨_,rfl,fun h=>absurd h e2,fun h=>by cases h⟩
  ·rw [if_pos (by simpa using e1)]
   exact ⟨_,rfl,fun h=>absurd h e1,fun h=>by cases h⟩
 obtain ⟨q,q1,q2,q3⟩:=key
 exact ⟨q,c,_,q1,c1,hv,q2,q3⟩
theorem x97 (m:Bs):∃ u,z50 m=some u∧(m=[71,69,84]∨m=[72,69,65,68]→u=false):=by
 unfold z50 Qq
 rw [z3a _ _ (by decide)]
 simp only [Option.bind_some]
 refine ⟨_,rfl,fun h => ?_⟩
 rcases h with rfl | rfl <;> decide
theorem w28 (e:uj) (h1:e.Request.Host.length≤1000) (h2:e.Request.Path.length≤1000) (h3:e.Request.Query.length≤1000) (h4:e.Response.Body.length≤100) (h5:e.Response.Headers.length≤15) (h6:∀ h,h∈e.Response.Headers→hdOK h):∃ z,z2v e=some z∧0≤z∧z≤100000:=by
 have key:Ok (z2v e) fun z=>0≤z∧z≤100000:=by
  unfold z2v
  rw [if_pos (by omega),qc (n:=(e.Request.Host.length:Int)+_) (by omega),qc (n:=(e.Request.Host.length:Int)+_+_) (by omega),qc (n:=(e.Request.Host.length:Int)+_+_+_) (by omega),qc (by omega)]
  refine z4p (fun (j:Nat) (s:Int)=>0≤s∧s≤5000+2100 * (j:Int)) e.Response.Headers 0 _ ⟨by omega,by omega⟩ (fun j x s hj hx hs => ?_) (fun s hs => ?_)
  ·have ho:=h6 x (List.mem_of_getElem? hx)
   have a:=Ye ho.1
   have b:=Wd ho.2
   have hjl:j < e.Response.Headers.length:=by have:=(List.getElem?_eq_some_iff.1 hx).1; omega
   unfold y40
   refine ⟨_,rfl,?_⟩
   show 0≤wr _∧wr _≤5000+2100 * ((j+1:Nat):Int)
   rw [qc (n:=(x.Name.length:Int)+_) (by omega),qc (by omega)]
   omega
  ·refine yv ⟨hs.1,?_⟩
   have:=hs.2
   simp only [Nat.zero_add] at this
   omega
 exact key
theorem v02 (r:zw) (h:r.Headers.length≤1000):z54 r=some r:=by
 unfold z54 jj
 rw [if_pos (by omega)]
 rfl
theorem x8o (r:yb) (h:r.Headers.length≤1000):z2w r=some r:=by
 unfold z2w jj
 rw [if_pos (by omega)]
 rfl
theorem w4g (r:zw) (b:yb) (hr:rqS r) (h2:hdsE b.Headers=0) (hbl:b.Headers.length≤15) (hbb:b.Body.length≤100) (hck:kl b=some 0) :
  ∃ p,z9o 0 100000 r b 0=some p∧(p.2=none→p.1.1=false)∧∀ K,p.2=some K→p.1=(true,0)∧jk r=some 0∧∃ nm t c V,K=mkK r b 0 t nm∧Nonempty (NfB r nm)∧km b.Headers=some c∧cB c.1∧xk b=some V∧V.2.2=0:=by
 obtain ⟨e1,q1,_⟩:=x31 r hr.1.1
 unfold z9o
 rw [q1]
 simp only [Option.bind_some]
 by_cases z1:e1=0
 rotate_left
 ·rw [if_pos (by simpa using z1)]
  exact ⟨_,rfl,fun _=>rfl,fun K hK=>by cases hK⟩
 subst z1
 have hc:=y4z hr.1.1 q1
 rw [if_neg (by simp),hck]
 simp only [Option.bind_some]
 have hmf:m_mf 0 0=some 0:=by unfold m_mf; rw [z6f]; rfl
 rw [if_neg (by simp),hmf]
 simp only [Option.bind_some]
 obtain ⟨st,c,V,s1,s2,s3,s4,s5⟩:=w2p r b hc.2.2.2.2.2.2.1 h2
 rw [if_neg (by simp),s1]
 simp only [Option.bind_some]
 by_cases z2:st.2=0
 rotate_left
 ·rw [if_pos (by simpa using z2)]
  exact ⟨_,rfl,fun _=>rfl,fun K hK=>by cases hK⟩
 obtain ⟨⟨c1,c2⟩,V1⟩:=s4 z2
 have ht:=(w1d b h2 (Zp h2)).1
 rw [if_neg (by simpa using z2),ht]
 simp only [Option.bind_some]
 generalize tgR (tgL (yo tgN b.Headers))=t at *
 by_cases z3:t.2=0
 rotate_left
 ·rw [if_pos (by simpa using z3)]
  exact ⟨_,rfl,fun _=>rfl,fun K hK=>by cases hK⟩
 obtain ⟨nm,n1,n2⟩:=w40 hr.1.1 hr.2
 rw [if_neg (by simpa using z3),n1]
 simp only [Option.bind_some]
 by_cases z4:nm.2=0
 rotate_left
 ·rw [if_pos (by simpa using z4)]
  exact ⟨_,rfl,fun _=>rfl,fun K hK=>by cases hK⟩
 rw [if_neg (by simpa using z4)]
 obtain ⟨u,u1,u2⟩:=x97 r.Method
 by_cases z5:st.1=true
 ·rw [if_pos z5]
  obtain rfl:=u2 (s5 z5)
  have hhl:r.Host.length≤1000:=by
   have:jx.all (fun s=>decide (s.length≤1000))=true:=by decide +kernel
   simpa using (List.all_eq_true.1 this) _ hr.1.1.2.1
  obtain ⟨z,y1,y2,y3⟩:=w28 (mkK r b 0 t.1 nm.1).Entry hhl (y2i hc.2.2.2.1).2.1 (y7d hc.2.2.2.2.1).1 hbb hbl (Zz h2)
  unfold y8j
  rw [v02 r (by have:=xl hc.2.2.2.2.2.2.1; omega),x8o b (by omega),u1]
  simp only [Option.bind_some]
  rw [if_pos trivial,y1]
  simp only [Option.bind_some]
  rw [if_pos ⟨y2,y3⟩]
  refine ⟨_,rfl,fun h=>by (cases h),fun K hK => ?_⟩
  cases hK
  exact ⟨rfl,trivial,nm.1,t.1,c,V,rfl,n2 z4,s2,c2,s3,V1⟩
 ·rw [if_neg z5]
  unfold y8k
  rw [u1]
  simp only [Option.bind_some]
  cases u
  ·exact ⟨_,rfl,fun _=>rfl,fun K hK=>by cases hK⟩
  ·rw [if_pos rfl,z4n]
   exact ⟨_,rfl,fun _=>rfl,fun K hK=>by cases hK⟩
theorem w9t (x:zg) (n:Bs) (h1:nmOK x) (h2:ascB n=true):z2e x.Name n=some (nmB n x):=by
 have:=z8n x n h1 h2
 unfold Qr at this
 cases h:z2e x.Name n with
 | none=>rw [h] at this; cases this
 | some b=>rw [h] at this; exact this
theorem x76 (c:UInt8):∀ s:Bs,c ∉ s→s.dropWhile (· == c)=s
 | [],_=>rfl
 | x::s,h=>by
  rw [List.dropWhile_cons_of_neg]
  intro hx
  exact h (by rw [← eq_of_beq hx]; simp)
theorem v0g (n:Int) (h:0≤n∧n≤1000000000000):xz n=some (Lib.itoa n)∧fldB (Lib.itoa n)=true:=by
 have e:Lib.itoa n=Lib.decDigits n.toNat:=x6u h.1
 have hl:=w8i h.1 (by omega)
 have hd:=v0l n.toNat
 rw [← e] at hd
 have hc:∀ c,isD c=true→(!outP (c.toNat:Int) 32 126)=true∧c≠32:=by
  have:(List.range 256).all (fun k => !isD (UInt8.ofNat k) || (!outP ((UInt8.ofNat k).toNat:Int) 32 126 && decide (UInt8.ofNat k≠32)))=true:=by decide +kernel
  intro c hc
  have:=(List.all_eq_true.1 this) c.toNat (List.mem_range.2 c.toNat_lt)
  rw [UInt8.ofNat_toNat,hc] at this
  simpa using this
 have hn:(32:UInt8) ∉ Lib.itoa n:=fun hm=>(hc 32 ((List.all_eq_true.1 hd) 32 hm)).2 rfl
 have hr:rgB (Lib.itoa n) 32 126=true:=by
  unfold rgB
  exact List.all_eq_true.2 fun c hm=>(hc c ((List.all_eq_true.1 hd) c hm)).1
 have ht:trL 32 (trR 32 (Lib.itoa n))=Lib.itoa n:=by
  have:trR 32 (Lib.itoa n)=Lib.itoa n:=by
   unfold trR
   rw [x76 32 _ (by simpa using hn),List.reverse_reverse]
  rw [this]
  exact x76 32 _ hn
 refine ⟨by unfold xz; rw [if_pos (by omega)],?_⟩
 unfold fldB
 rw [hr,ht]
 simp only [decide_true,Bool.and_true,decide_eq_true_eq]
 omega
def ansS (v:Bs) (s:Bool×List zg) (x:zg):Bool×List zg:=
 if nmB ageB x then (if s.1 then s else (true,s.2++[zg.mk x.Name v])) else (s.1,s.2++[x])
def ansF (v:Bs):Bool×List zg→List zg→Bool×List zg
 | s,[]=>s
 | s,x::l=>ansF v (ansS v s x) l
theorem x87 {ρ:Type} (v:Bs) (f:Nat→zg→Bool×List zg→Option ((Bool×List zg) ⊕ ρ)) (E:Bool×List zg→Option ρ) (hf:∀ k x s,nmOK x→s.2.length≤1000→f k x s=some (.inl (ansS v s x))) :
  ∀ (l:List zg) (k:Nat) (s:Bool×List zg),(∀ x,x∈l→nmOK x)→s.2.length+l.length≤1000→forL f E k l s=E (ansF v s l)
 | [],_,_,_,_=>rfl
 | x::l,k,s,h,hn=>by
  have h1:=hf k x s (h x (by simp)) (by simp at hn; omega)
  show (f k x s).bind _=_
  rw [h1]
  have hl:(ansS v s x).2.length≤s.2.length+1:=by
   unfold ansS
   repeat' split
   all_goals simp
  exact x87 v f E hf l (k+1) (ansS v s x) (fun y hy=>h y (List.mem_cons_of_mem _ hy)) (by simp at hn; omega)
theorem x88 (v:Bs) (hv:fldB v=true):∀ (l:List zg) (s:Bool×List zg),(∀ x,x∈l→hdOK x)→(∀ x,x∈s.2→hdOK x) →
  (ansF v s l).2.length≤s.2.length+l.length∧(∀ x,x∈(ansF v s l).2→hdOK x)∧((ansF v s l).2.filter fun x => !nmB ageB x)=(s.2.filter fun x => !nmB ageB x)++(l.filter fun x => !nmB ageB x)
 | [],s,_,hs=>⟨by simp [ansF],hs,by simp [ansF]⟩
 | x::l,s,hl,hs=>by
  have hx:=hl x (by simp)
  have h1:(ansS v s x).2.length≤s.2.length+1∧(∀ y,y∈(ansS v s x).2→hdOK y)∧((ansS v s x).2.filter fun y => !nmB ageB y)=(s.2.filter fun y => !nmB ageB y)++([x].filter fun y => !nmB ageB y):=by
   unfold ansS
   cases hn:nmB ageB x
   ·simp only [Bool.false_eq_true,if_false]
    refine ⟨by simp,fun y hy => ?_,by simp [List.filter_append]⟩
    rcases List.mem_append.1 hy with h | h
    ·exact hs y h
    ·rw [List.mem_singleton.1 h]; exact hx
   ·simp only [if_true]
    split
    ·exact ⟨by omega,hs,by simp [hn]⟩
    ·have hn2:nmB ageB (zg.mk x.Name v)=true:=hn
     refine ⟨by simp,fun y hy => ?_,by simp [List.filter_append,hn,hn2]⟩
     rcases List.mem_append.1 hy with h | h
     ·exact hs y h
     ·rw [List.mem_singleton.1 h]; exact ⟨hx.1,hv⟩
  obtain ⟨a1,a2,a3⟩:=x88 v hv l (ansS v s x) (fun y hy=>hl y (List.mem_cons_of_mem _ hy)) h1.2.1
  refine ⟨by show (ansF v (ansS v s x) l).2.length≤_; have:=h1.1; simp; omega,a2,?_⟩
  show ((ansF v (ansS v s x) l).2.filter _)=_
  rw [a3,h1.2.2,List.append_assoc,← List.filter_append]
  rfl
theorem v1u (K:wx) (q:zw) (at_:Int) (h0:hdsE K.Entry.Response.Headers=0) (hl:K.Entry.Response.Headers.length≤15) (hat:0≤at_ - K.Entry.At∧at_ - K.Entry.At≤100000) :
  ∃ an,z9m K q at_=some an∧an.1.Status=K.Entry.Response.Status∧(q.Method=z6p∨an.1.Body=K.Entry.Response.Body)∧hdsE an.1.Headers=0∧(an.1.Headers.filter fun x => !nmB ageB x)=(K.Entry.Response.Headers.filter fun x => !nmB ageB x):=by
 have hag:=x0u K.Entry
 have hage:=(x9d K.Entry at_ h0 (Zp h0) (by omega)).1
 have hcl:=x8o K.Entry.Response (by omega)
 generalize hG:at_ - K.Entry.At+1000 * agV K.Entry=G at *
 obtain ⟨i1,i2⟩:=v0g (G / 1000) (by omega)
 generalize hV:Lib.itoa (G / 1000)=v at *
 unfold z9m
 rw [hcl]
 simp only [Option.bind_some]
 rw [hage]
 simp only [Option.bind_some]
 rw [if_pos ⟨⟨by omega,by omega⟩,by omega⟩,i1]
 simp only [Option.bind_some]
 rw [if_pos (by omega)]
 rw [x87 v _ _ (fun k x s hx hs=>by
  unfold y42
  rw [w9t x ageB hx (by decide)]
  simp only [Option.bind_some]
  unfold ansS z3x
  cases nmB ageB x
  ·simp only [Bool.not_false,if_true,Bool.false_eq_true,if_false]
   rw [if_pos (by omega)]
  ·cases hs1:s.1
   ·simp only [Bool.not_true,Bool.not_false,Bool.false_eq_true,if_false,if_true]
    rw [if_pos (by omega)]
   ·simp only [Bool.not_true,Bool.false_eq_true,if_false,if_true]
    rw [← hs1]) _ 0 (false,[]) (Zp h0) (by simp; omega)]
 obtain ⟨a1,a2,a3⟩:=x88 v i2 K.Entry.Response.Headers (false,[]) (Zz h0) (by simp)
 simp only [List.filter_nil,List.nil_append,List.length_nil,Nat.zero_add] at a1 a3
 generalize ansF v (false,[]) K.Entry.Response.Headers=F at *
 have end_:∀ L:List zg,L.length≤20→(∀ x,x∈L→hdOK x)→(L.filter fun x => !nmB ageB x)=(K.Entry.Response.Headers.filter fun x => !nmB ageB x)→∃ an,z3y K q K.Entry.Response L=some an∧an.1.Status=K.Entry.Response.Status∧(q.Method=z6p∨an.1.Body=K.Entry.Response.Body)∧hdsE an.1.Headers=0∧(an.1.Headers.filter fun x => !nmB ageB x)=(K.Entry.Response.Headers.filter fun x => !nmB ageB x):=by
  intro L h1 h2 h3
  have h4:hdsE L=0:=y0b (by omega) fun x hx=>h2 x hx
  unfold z3y z7a
  by_cases hm:q.Method=z6p
  ·rw [if_pos (by simpa using hm)]
   exact ⟨_,rfl,rfl,.inl hm,h4,h3⟩
  ·rw [if_neg (by simpa using hm)]
   exact ⟨_,rfl,rfl,.inr rfl,h4,h3⟩
 unfold y43
 cases F.1
 ·simp only [Bool.not_false,if_true]
  rw [if_pos (by omega)]
  have hA:nmB ageB (zg.mk ageB v)=true:=by unfold nmB; simp
  refine end_ _ (by simp; omega) (fun x hx => ?_) ?_
  ·rcases List.mem_append.1 hx with h | h
   ·exact a2 x h
   ·rw [List.mem_singleton.1 h]; exact ⟨by show tokB ageB=true; decide +kernel,i2⟩
  ·rw [List.filter_append,a3,List.filter_cons_of_neg (by rw [hA]; simp)]
   simp
 ·simp only [Bool.not_true,Bool.false_eq_true,if_false]
  exact end_ _ (by omega) a2 a3
theorem w9b (r:zw) (b:yb) (hr:rqS r) (hc:rqC r) (hl:r.Headers.length≤10) (h2:hdsE b.Headers=0) (hbl:b.Headers.length≤15) {nm:zw} (nf:NfB r nm) (t:List Bs) {c:yh×Int} (hp:km b.Headers=some c) (hcB:cB c.1) {V:List Bs×Bool×Int} (hv:xk b=some V) (hV0:V.2.2=0) (pk:Int) (hpk:0≤pk∧pk≤30000) :
  ∃ g,z9p 0 (mkK r b 0 t nm) (zw.mk pk r.Method r.Host r.Path r.Query [] (rqL r.Headers) [])=some g∧(g.2.2=0∨g.2.2=9)∧(g.2.2=0→(g.1=1∨g.1=2)→g.2.1.Status=b.Status∧(r.Method=z6p∨g.2.1.Body=b.Body)∧hdsE g.2.1.Headers=0∧(g.2.1.Headers.filter fun x => !nmB ageB x)=(b.Headers.filter fun x => !nmB ageB x)):=by
 have ho:=Zz hc.2.2.2.2.2.2.1
 have hpl:(rqL r.Headers).length≤r.Headers.length:=List.length_filter_le _ _
 have h0:hdsE (rqL r.Headers)=0:=y0b (by omega) fun x hx=>ho x (List.mem_filter.1 hx).1
 obtain ⟨e1,e2,e3,e4,e5,e6,e7,e8⟩:=hc
 have hR:rqP (zw.mk pk r.Method r.Host r.Path r.Query [] (rqL r.Headers) []):=⟨hr.1.1.1,hr.1.1.2.1,hr.1.1.2.2.1,hr.1.1.2.2.2.1,by simp,z6q (Zz h0) (by show (rqL r.Headers).length≤1000; omega)⟩
 have hck:=x8q hR ⟨by show momP pk=true; unfold momP; simp; omega,e2,e3,e4,e5,by show fldB []=true; decide,h0,by simp⟩
 obtain ⟨d,d1,d2,d3⟩:=y7j (rqL r.Headers) h0 (Zp h0)
 unfold z9p
 rw [hck]
 simp only [Option.bind_some]
 rw [if_neg (by simp),d1]
 simp only [Option.bind_some]
 by_cases z:d.2=0
 rotate_left
 ·rw [if_pos (by simpa using z)]
  exact ⟨_,rfl,d3,fun h=>absurd h z⟩
 have hN:=x4v hR hck nf.host nf.path nf.parse (by have:=nf.plen; omega) nf.pmem nf.sort nf.perm.length_eq nf.text
 rw [if_neg (by simpa using z),if_neg (by simp; omega),hN]
 simp only [Option.bind_some]
 rw [if_neg (by simp)]
 have hvv:=(x1a b h2 (Zp h2)).1
 rw [hv] at hvv
 have hVe:=Option.some.inj hvv
 have hnm:nm.Headers=r.Headers.map lwH:=congrArg zw.Headers nf.is
 have n1:hnP nm.Headers:=by rw [hnm]; exact y9i (by omega) (Zp e7)
 have n2:hnP ((rqL r.Headers).map lwH):=y9i (by omega) (Zp h0)
 have hsu:=fun b' (hb:hnP (zw.Headers b'))=>(w1j (a:=nm) (b:=b') n1 hb b V hv hV0 (by rw [hVe]; exact ⟨x9x,fun n hn=>x9w hn⟩)).1
 have hsu1:=hsu (zw.mk pk (Lib.toUpperA r.Method) nf.g (npF r.Path).1 (Lib.join (nf.s.map wpQ) [38]) [] ((rqL r.Headers).map lwH) []) n2
 rw [show z0u (mkK r b 0 t nm).own_ (mkK r b 0 t nm).Entry.Response _=_ from hsu1]
 simp only [Option.bind_some]
 split
 ·unfold y8m
  have hp':km (mkK r b 0 t nm).Entry.Response.Headers=some c:=hp
  rw [hp']
  simp only [Option.bind_some]
  have hag:=x0u (mkK r b 0 t nm).Entry
  have hage:=(x9d (mkK r b 0 t nm).Entry pk h2 (Zp h2) (by show _≤pk - 0∧pk - 0≤_; omega)).1
  obtain ⟨A,hA⟩:∃ A,agV (mkK r b 0 t nm).Entry=A:=⟨_,rfl⟩
  rw [hA] at hag hage
  rw [hage]
  simp only [Option.bind_some]
  obtain ⟨D,hD⟩:∃ D,z52 d.1 c.1 (pk - (mkK r b 0 t nm).Entry.At+1000 * A)=some D:=⟨_,v0i (d2 z) hcB _ (by show _≤pk - 0+1000 * A∧pk - 0+1000 * A≤_; omega)⟩
  rw [hD]
  simp only [Option.bind_some]
  split
  ·obtain ⟨an,a1,a2,a3,a4,a5⟩:=v1u (y5h (mkK r b 0 t nm) pk) (zw.mk pk r.Method r.Host r.Path r.Query [] (rqL r.Headers) []) pk h2 hbl (by show 0≤pk - 0∧pk - 0≤_; omega)
   rw [a1]
   exact ⟨_,rfl,.inl rfl,fun _ _=>⟨a2,a3,a4,a5⟩⟩
  ·rename_i hd
   split
   ·exact ⟨_,rfl,.inl rfl,fun _ h=>by rcases h with h | h <;> cases h⟩
   ·refine ⟨_,rfl,.inl rfl,fun _ h=>absurd ?_ hd⟩
    have h':D=1∨D=2:=h
    rcases h' with h' | h' <;> simp [h']
 ·unfold y8l
  split
  ·exact ⟨_,rfl,.inl rfl,fun _ h=>by rcases h with h | h <;> cases h⟩
  ·exact ⟨_,rfl,.inl rfl,fun _ h=>by rcases h with h | h <;> cases h⟩
theorem x4a (l:List zg) (h0:hdsE l=0):z5q l ageB=some (l.filter fun x => !nmB ageB x,0):=by
 have hl:=xl h0
 have hP:=z6q (Zz h0) (by omega)
 unfold z5q y24
 rw [(Qz l hP).1,h0]
 simp only [Option.bind_some]
 rw [if_neg (by simp),Yq _ (by decide)]
 simp only [Option.bind_some]
 rw [if_neg (by decide +kernel)]
 simp only [Option.bind_some]
 rw [if_neg (by simp),y5d l ageB (by omega) (Zp h0) (by decide)]
 rfl
theorem eqHW (l:List zg) (h:l.length≤1000000000):y22 l l=some true:=
 w9o (fun x7 x10:zg => !((x7.Name == x10.Name) && ((x7.Value == x10.Value) && true))) (fun x=>by simp) l h
theorem y0s:Zf=some true:=by
 unfold Zf
 rw [w99]; rfl
theorem w05 (L:List Int):y26 L=some true:=by
 refine x4t ?_
 unfold y26
 refine yi (v05 (k:=0) ⟨by simp,by simp⟩ (by omega)) fun ra ha => ?_
 obtain ⟨⟨a1,a2⟩,a3⟩:=ha
 have hP:=x68 a1 (by omega)
 obtain ⟨e,e1,e2,e3⟩:=w30 ra.1 hP
 by_cases z:e=0
 rotate_left
 ·have hw:z0o ra.1=some ([],e):=by
   unfold z0o
   rw [e1]
   simp only [Option.bind_some]
   rw [if_pos (by simpa using z)]
  have hrd:∃ q n,z2j []=some (q,n,9):=by
   obtain ⟨x,hx,hx2⟩:∃ x,Zc []=some x∧x.2=false:=by
    rcases x65 [] (by simp) with ⟨x,z',h1,h2',_⟩ | ⟨f,l,rest,h1,h2',_⟩
    ·exact ⟨x,h1,h2'⟩
    ·exfalso
     have hst:=y37 [] [] [] 0 0 [] (by have:=Ws [] 0 (by simp); simpa using this) (by simp) (by simp)
     have hc:(Lib.cut [] crl).2.2=false:=by decide
     rw [if_pos hc] at hst
     have:=kv (body:=fun (p:Int×(List zg)×Bs×Int)=>ud [] p.1 p.2.1 p.2.2.1 p.2.2.2) (s:=(0,[],[],0)) hst
     have h3:Zc []=_:=this
     rw [h1] at h3
     have h4:=congrArg (fun o:Option (jc×Bool)=>o.map Prod.snd) h3
     simp at h4
   obtain ⟨p,p1,p2,p3,_⟩:=x2z x.1.first_ (by
    rcases x65 [] (by simp) with ⟨x',z',h1,_,h3,_⟩ | ⟨f,l,rest,h1,h2',h3,_⟩
    ·rw [hx] at h1; cases h1; exact h3
    ·rw [hx] at h1; cases h1; exact h3)
   unfold z2j
   rw [if_neg (by simp),hx]
   simp only [Option.bind_some]
   rw [p3]
   simp only [Option.bind_some]
   rw [if_pos (by simp [hx2])]
   exact ⟨_,_,rfl⟩
  obtain ⟨q,n,hq⟩:=hrd
  rw [hw]
  simp only [Option.bind_some]
  rw [hq]
  simp only [Option.bind_some]
  refine yi (x8u a3 (by omega) 0) fun rq hr => ?_
  rw [if_pos (by simp),if_pos ⟨z,by simp⟩,y0s]
  exact yv rfl
 subst z
 have h0:=e3 rfl
 obtain ⟨tx,n,hw,hrd⟩:=w31 ra.1 h0 (by have:=a1.1; omega) a2 e1
 rw [hw]
 simp only [Option.bind_some]
 rw [hrd]
 simp only [Option.bind_some]
 refine yi (x8u a3 (by omega) 0) fun rq hr => ?_
 obtain ⟨⟨hr1,hr2,hr3,hr4⟩,hr5⟩:=hr
 rw [if_neg (by simp)]
 have hbl:(plH ra.1.Headers).length≤15:=by
  have h1:(plH ra.1.Headers).length≤ra.1.Headers.length:=List.length_filter_le _ _
  have:=a1.1
  omega
 have hb0:hdsE (plH ra.1.Headers)=0:=y0b (by omega) fun x hx=>Zz h0 x (List.mem_filter.1 hx).1
 have hbck:kl (yb.mk ra.1.Status (plH ra.1.Headers) ra.1.Body)=some 0:=by
  rw [y2d _ (z6q (Zz hb0) (by show (plH ra.1.Headers).length≤1000; omega))]
  have:=y2d ra.1 hP
  rw [e1] at this
  have:=Option.some.inj this
  by_cases h1:outP ra.1.Status 100 599=true
  ·rw [if_pos h1] at this; cases this
  ·have e5:(if outP ra.1.Status 100 599 then (1:Int) else if hdsE (plH ra.1.Headers)≠0 then hdsE (plH ra.1.Headers) else if 20000 < (ra.1.Body.length:Int) then 2 else 0)=0:=by
    rw [if_neg h1,hb0,if_neg (by simp),if_neg (by omega)]
   exact congrArg some e5
 generalize hB:yb.mk ra.1.Status (plH ra.1.Headers) ra.1.Body=b at *
 have hbH:b.Headers=plH ra.1.Headers:=by rw [← hB]
 have hbB:b.Body=ra.1.Body:=by rw [← hB]
 rw [← hbH] at hbl hb0
 obtain ⟨p,p1,p2,p3⟩:=w4g rq.1 b hr1 hb0 hbl (by rw [hbB]; exact a2) hbck
 rw [p1]
 simp only [Option.bind_some]
 unfold y8g
 cases hp:p.2 with
 | none =>
  simp only
  rw [if_pos (p2 hp),y0s]
  exact yv rfl
 | some K =>
  obtain ⟨k1,k2,nm,t,c,V,rfl,⟨nf⟩,k4,k5,k6,k7⟩:=p3 K hp
  simp only
  rw [if_pos (by rw [k1]; exact ⟨rfl,rfl⟩)]
  unfold y8h
  have hcC:=y4z hr1.1.1 k2
  obtain ⟨tq,m,w1,w2⟩:=w33 rq.1 hr1.1.1 hcC hr2 hr3 k2
  rw [w1]
  simp only [Option.bind_some]
  rw [w2]
  simp only [Option.bind_some]
  refine yi (y7f hr5 (by omega) [0,1000,30000] ⟨by simp,by simp⟩) fun pk hpk => ?_
  have hpk2:0≤pk.1∧pk.1≤30000:=by
   have:=hpk.1
   simp only [List.mem_cons,List.not_mem_nil,or_false] at this
   omega
  obtain ⟨g,g1,g2,g3⟩:=w9b rq.1 b hr1 hcC hr3 hb0 hbl nf t k4 k5 k6 k7 pk.1 hpk2
  rw [g1]
  simp only [Option.bind_some]
  rw [if_pos ⟨trivial,trivial⟩]
  by_cases y:g.2.2=0
  rotate_left
  ·rw [if_pos (by simpa using y),if_pos (g2.resolve_left y),y0s]
   exact yv rfl
  rw [if_neg (by simpa using y)]
  by_cases y2:g.1=1∨g.1=2
  rotate_left
  ·rw [if_pos (by simpa [not_or] using y2),y0s]
   exact yv rfl
  rw [if_neg (by rcases y2 with h | h <;> simp [h])]
  obtain ⟨f1,f2,f3,f4⟩:=g3 y y2
  unfold y8i
  rw [x4a _ f3]
  simp only [Option.bind_some]
  rw [x4a _ hb0]
  simp only [Option.bind_some]
  rw [f4,eqHW _ (by have:(b.Headers.filter fun x => !nmB ageB x).length≤b.Headers.length:=List.length_filter_le _ _; omega)]
  simp only [Option.bind_some]
  rw [if_pos ⟨⟨trivial,trivial⟩,trivial,f1,f2⟩,y0s]
  exact yv rfl
end Go.Proofs.YtahcnngcpjkpgabGreatDoor
