/- Plain: the law TopKeysOfPlans is true for every list of numbers. -/
import Derived.Test.YtbndlmnjeofkdacGreatDoorRtZt
import Derived.Test.YtbndlmnjeofkdacGreatDoorWoZt
namespace Go.Proofs.YtbndlmnjeofkdacGreatDoor
set_option linter.unusedVariables false
set_option maxRecDepth 20000
def tfB (l:List Bs):List Bs:=(l.map fun p=>trL 32 (trR 32 p)).filter fun p=>decide (p≠[])
theorem x5c (a b:List Bs):tfB (a++b)=tfB a++tfB b:=by simp [tfB]
theorem x5b (l:List Bs):(tfB l).length≤l.length:=by
 unfold tfB
 have:=(List.filter_sublist (p:=fun p:Bs=>decide (p≠[])) (l:=l.map fun p=>trL 32 (trR 32 p))).length_le
 simpa using this
def ptsB (l:List Bs):List Bs:=tfB (l.map (spl 44)).flatten
def vlP (V:List Bs):Prop:=V.length≤1000∧∀ v,v∈V→v.length≤2000
theorem x6s:∀ (l:List Bs) (k:Nat) (q:List Bs),(∀ x,x∈l→x.length≤2000)→q.length+l.length≤100000000 →
  forL (fun (k:Nat) (x:Bs) (s:(List Bs))=>Qd k x s) (fun (s:(List Bs))=>z33 s) k l q=some (.inl (q++tfB l))
 | [],k,q,_,_=>by show some (Sum.inl q)=_; simp [tfB]
 | x::l,k,q,h,hl=>by
  simp only [List.length_cons] at hl
  have hx:=h x (by simp)
  have hst:Qd k x q=some (.inl (q++tfB [x])):=by
   unfold Qd Qf
   rw [x47 32 (by decide) x (by omega)]
   simp only [Option.bind_some]
   by_cases h0:trL 32 (trR 32 x)=[]
   ·rw [if_neg (by simpa using h0)]
    simp [tfB,h0]
   ·rw [if_pos (by simpa using h0),if_pos (by omega)]
    simp [tfB,h0]
  show (Qd k x q).bind _=_
  rw [hst]
  have h1:=x5b [x]
  refine Eq.trans (x6s l (k+1) (q++tfB [x]) (fun y hy=>h y (List.mem_cons_of_mem _ hy)) (by simp only [List.length_append,List.length_cons,List.length_nil] at h1 ⊢; omega)) ?_
  rw [List.append_assoc,← x5c]; rfl
theorem x6t:∀ (V:List Bs) (k:Nat) (q:List Bs),(∀ v,v∈V→v.length≤2000)→q.length+V.length * 2001≤90000000 →
  forL (fun (k:Nat) (x:Bs) (s:(List Bs))=>Qe k x s) (fun (s:(List Bs))=>z34 s) k V q=some (q++ptsB V)
 | [],k,q,_,_=>by show some q=_; simp [ptsB,tfB]
 | v::V,k,q,h,hl=>by
  simp only [List.length_cons,Nat.succ_mul] at hl
  have hv:=h v (by simp)
  have h3:=z7h 44 v
  have hst:Qe k v q=some (.inl (q++tfB (spl 44 v))):=by
   unfold Qe kk
   rw [if_pos ⟨by omega,by simp⟩,z7g]
   simp only [Option.bind_some]
   rw [if_pos (by omega)]
   exact x6s (spl 44 v) 0 q (fun x hx=>by have:=y2m 44 v x hx; omega) (by omega)
  show (Qe k v q).bind _=_
  rw [hst]
  have h1:=x5b (spl 44 v)
  refine Eq.trans (x6t V (k+1) (q++tfB (spl 44 v)) (fun y hy=>h y (List.mem_cons_of_mem _ hy)) (by simp only [List.length_append]; omega)) ?_
  unfold ptsB
  rw [List.map_cons,List.flatten_cons,x5c,List.append_assoc]
theorem x6r (V:List Bs) (h:vlP V):Ws V=some (ptsB V):=by
 obtain ⟨h1,h2⟩:=h
 unfold Ws
 rw [if_pos (by omega),x6t V 0 [] h2 (by simp; omega)]; rfl
def idxB (ns:List Bs) (nm:Bs):Int:=fdx (fun x=>decide (nm=x)) 0 ns
theorem x8x (ns:List Bs) (nm:Bs) (h:ns.length≤1000000000):z1p ns nm=some (idxB ns nm):=
 z50 ns (p:=fun x=>some (decide (nm=x))) (fun x=>decide (nm=x)) h fun _ _=>rfl
def flN:List Bs:=[[110,111,45,115,116,111,114,101],[110,111,45,99,97,99,104,101],[112,114,105,118,97,116,101],[112,117,98,108,105,99],[109,117,115,116,45,114,101,118,97,108,105,100,97,116,101],[111,110,108,121,45,105,102,45,99,97,99,104,101,100]]
def cnN:List Bs:=[[109,97,120,45,97,103,101],[115,45,109,97,120,97,103,101],[115,116,97,108,101,45,119,104,105,108,101,45,114,101,118,97,108,105,100,97,116,101],[115,116,97,108,101,45,105,102,45,101,114,114,111,114],[109,97,120,45,115,116,97,108,101],[109,105,110,45,102,114,101,115,104]]
theorem x8y {ns:List Bs} {nm:Bs} (h:0≤idxB ns nm):∃ j:Nat,idxB ns nm=(j:Int)∧j < ns.length∧nm∈ns:=by
 obtain ⟨_,x,h2,h3⟩:=(z55 (fun x=>decide (nm=x)) ns 0).2 h
 refine ⟨(idxB ns nm).toNat,by omega,?_,?_⟩
 ·have:=(List.getElem?_eq_some_iff.1 h2).1
  exact this
 ·have e:nm=x:=by simpa using h3
  rw [e]; exact List.mem_of_getElem? h2
theorem v3h:∀ j:Nat,j < 6→at? ([0,1,2,3,4,5]:List Int) (j:Int)=some (j:Int)∧y53 (j:Int)=true:=by decide +kernel
theorem v4q:∀ j:Nat,j < 6→at? ([6,7,8,9,10,11]:List Int) (j:Int)=some (6+(j:Int))∧Qp (6+(j:Int))=true:=by decide +kernel
def nOf (v:Bs):Int:=if okN 9 v then valB v else 0
def sOK (v:Bs):Bool:=okN 9 v && !outP (valB v) 0 100000000
theorem w48 (v:Bs) (h:v.length≤1000000):z9t v=some (nOf v,sOK v):=by
 have hk:Wu v 9=some (if okN 9 v then valB v else 0,okN 9 v):=w7t v 9 (by omega) h
 unfold z9t z87 z6b nOf sOK
 rw [hk]
 simp only [Option.bind_some]
 cases okN 9 v
 ·rfl
 ·simp only [if_true,Wj,Option.bind_some,Bool.true_and]
def numC (c:qo) (i n:Int):qo:=if z0b c (6+i)=-1∨n < z0b c (6+i) then y2l c (6+i) n else c
def Zk (c:qo) (x:Bs):Bool×qo:=
 let r:=Lib.cut x [61]
 if !tokB r.1 || (r.2.2 && !sOK r.2.1) then (false,c)
 else if 0≤idxB flN (lo r.1) then (!r.2.2,y74 c (idxB flN (lo r.1)) true)
 else if idxB cnN (lo r.1) < 0 then (true,c)
 else (r.2.2,numC c (idxB cnN (lo r.1)) (nOf r.2.1))
theorem w2l (c:qo) (x:Bs) (h:x.length≤1000000):z48 c x=some (Zk c x):=by
 obtain ⟨c1,c2,c3,c4⟩:=v4f x 61
 unfold z48 Zk z1o
 rw [if_pos (by omega)]
 simp only [Option.bind_some]
 generalize Lib.cut x [61]=r at *
 rw [w48 _ (by omega),x06 _ (by omega)]
 simp only [Option.bind_some]
 cases ht:tokB r.1
 ·rfl
 simp only [Bool.not_true,Bool.false_or]
 cases hs:(r.2.2 && !sOK r.2.1)
 ·simp only [Bool.false_eq_true,if_false]
  have hlow:Qi r.1=some (lo r.1):=by
   unfold Qi
   rw [if_pos ⟨by omega,w2o ht⟩]
  have hf:y4m=some (flN,[0,1,2,3,4,5]):=rfl
  have hc:z9u=some (cnN,[6,7,8,9,10,11]):=rfl
  rw [hlow,hf,hc]
  simp only [Option.bind_some]
  rw [x8x flN (lo r.1) (by decide),x8x cnN (lo r.1) (by decide)]
  simp only [Option.bind_some]
  by_cases h0:0≤idxB flN (lo r.1)
  ·obtain ⟨j,j1,j2,_⟩:=x8y h0
   obtain ⟨a1,a2⟩:=v3h j j2
   rw [if_pos (by simpa using h0),if_pos h0,j1,a1]
   simp only [Option.bind_some]
   rw [if_pos a2]
  ·rw [if_neg (by simpa using h0),if_neg h0]
   by_cases h1:idxB cnN (lo r.1) < 0
   ·rw [if_pos (by simpa using h1),if_pos h1]
   ·rw [if_neg (by simpa using h1),if_neg h1]
    obtain ⟨j,j1,j2,_⟩:=x8y (show 0≤idxB cnN (lo r.1) by omega)
    obtain ⟨a1,a2⟩:=v4q j j2
    unfold z58 z6a numC
    rw [j1,a1]
    simp only [Option.bind_some,a2,if_true]
    by_cases hg:z0b c (6+(j:Int))=-1
    ·rw [if_pos (by simpa using hg),if_pos (Or.inl hg)]
    ·rw [if_neg (by simpa using hg)]
     by_cases hn:nOf r.2.1 < z0b c (6+(j:Int))
     ·rw [if_pos (by simpa using hn),if_pos (Or.inr hn)]
     ·rw [if_neg (by simpa using hn),if_neg (by simp [hg,hn])]
 ·simp
abbrev Tst:=Bool×Bool×Int×Int×Bool×Bool×Bool×Bool×Int×Int×Int×Int
def tc (s:Tst):qo:=qo.mk s.1 s.2.1 s.2.2.2.2.1 s.2.2.2.2.2.1 s.2.2.2.2.2.2.1 s.2.2.2.2.2.2.2.1 s.2.2.2.2.2.2.2.2.1 s.2.2.2.2.2.2.2.2.2.1 s.2.2.2.2.2.2.2.2.2.2.1 s.2.2.2.2.2.2.2.2.2.2.2 s.2.2.1 s.2.2.2.1
def ct (c:qo):Tst:=(c.NoStore,c.NoCache,c.MaxStale,c.MinFresh,c.Private,c.Public,c.Must,c.Only,c.MaxAge,c.Shared,c.Stale,c.OnError)
abbrev zzT:qo×Int:=(qo.mk false false false false false false 0 0 0 0 0 0,9)
def stT (c:qo) (x:Bs):Tst ⊕ (qo×Int):=if (Zk c x).1 then .inl (ct (Zk c x).2) else .inr zzT
theorem w6j (k:Nat) (x:Bs) (c:qo) (h:x.length≤1000000):z2n k x c.NoStore c.NoCache c.MaxStale c.MinFresh c.Private c.Public c.Must c.Only c.MaxAge c.Shared c.Stale c.OnError=some (stT c x):=by
 unfold z2n stT
 show (z48 c x).bind _=_
 rw [w2l c x h]
 simp only [Option.bind_some]
 cases (Zk c x).1 <;> rfl
abbrev ccL:Bs:=[99,97,99,104,101,45,99,111,110,116,114,111,108]
abbrev c0:Tst:=(false,false,-1,-1,false,false,false,false,-1,-1,-1,-1)
theorem w6i (l:List ql):z5a l=y00 l false false (-1) (-1) false false false false (-1) (-1) (-1) (-1):=rfl
theorem w7w:x0k=some true:=by
 have hcr:z85 (xa.mk 200 [ql.mk ccL [109,97,120,45,97,103,101,61,50]] [])=some 0:=by
  have h1:=(x8z [ql.mk ccL [109,97,120,45,97,103,101,61,50]] ⟨by simp,fun h hh=>by rw [List.mem_singleton.1 hh]; exact ⟨by decide,by decide⟩⟩).1
  have h2:hdsE [ql.mk ccL [109,97,120,45,97,103,101,61,50]]=0:=by decide +kernel
  rw [h2] at h1
  unfold z85
  rw [Wj]
  simp only [Option.bind_some]
  rw [h1]
  rfl
 have hnm:∀ x,x∈[ql.mk ccL [109,97,120,45,97,103,101,61,50]]→nmOK x:=fun x hx=>by rw [List.mem_singleton.1 hx]; exact ⟨by decide +kernel,by decide⟩
 have hv:=(y07 [ql.mk ccL [109,97,120,45,97,103,101,61,50]] ccL (by simp) hnm ⟨rfl,by decide⟩).1
 have hv2:=(y07 [ql.mk ccL [109,97,120,45,97,103,101,61,50]] [118,97,114,121] (by simp) hnm ⟨rfl,by decide⟩).1
 have e1:Zw ccL [ql.mk ccL [109,97,120,45,97,103,101,61,50]]=[[109,97,120,45,97,103,101,61,50]]:=by decide +kernel
 have e2:Zw [118,97,114,121] [ql.mk ccL [109,97,120,45,97,103,101,61,50]]=[]:=by decide +kernel
 rw [e1] at hv
 rw [e2] at hv2
 have p1:=x6r [[109,97,120,45,97,103,101,61,50]] ⟨by simp,by simp⟩
 have p2:=x6r [] ⟨by simp,by simp⟩
 have e3:ptsB [[109,97,120,45,97,103,101,61,50]]=[[109,97,120,45,97,103,101,61,50]]:=by decide +kernel
 rw [e3] at p1
 have hpar:z5a [ql.mk ccL [109,97,120,45,97,103,101,61,50]]=some ((Zk (tc c0) [109,97,120,45,97,103,101,61,50]).2,0):=by
  rw [w6i]
  unfold y00
  show (uu _ ccL).bind _=_
  rw [hv]
  simp only [Option.bind_some]
  rw [p1]
  simp only [Option.bind_some]
  rw [if_pos (by simp)]
  have a:=w6j 0 [109,97,120,45,97,103,101,61,50] (tc c0) (by simp)
  show (z2n 0 [109,97,120,45,97,103,101,61,50] false false (-1) (-1) false false false false (-1) (-1) (-1) (-1)).bind _=_
  have a':z2n 0 [109,97,120,45,97,103,101,61,50] false false (-1) (-1) false false false false (-1) (-1) (-1) (-1)=some (stT (tc c0) [109,97,120,45,97,103,101,61,50]):=a
  rw [a']
  have e4:(Zk (tc c0) [109,97,120,45,97,103,101,61,50]).1=true:=by decide +kernel
  unfold stT
  rw [e4]
  rfl
 have hvy:z9s (xa.mk 200 [ql.mk ccL [109,97,120,45,97,103,101,61,50]] [])=some ([],false,0):=by
  unfold z9s
  show (uu [ql.mk ccL [109,97,120,45,97,103,101,61,50]] [118,97,114,121]).bind _=_
  rw [hv2]
  simp only [Option.bind_some]
  rw [p2]
  have e0:ptsB []=[]:=rfl
  rw [e0]
  simp only [Option.bind_some]
  rw [if_pos (by simp)]
  show y0z []=_
  have hi:z1p [] [42]=some (-1):=rfl
  have hs:Yd []=some []:=by
   unfold Yd
   rw [if_pos (by simp)]
   simp
  unfold y0z z4k z10 Wr
  rw [hi]
  simp only [Option.bind_some]
  rw [if_neg (by simp),if_pos (by simp)]
  simp only [Option.bind_some]
  rw [hs]
  rfl
 have f1:(Zk (tc c0) [109,97,120,45,97,103,101,61,50]).2.NoCache=false:=by decide +kernel
 have f2:(Zk (tc c0) [109,97,120,45,97,103,101,61,50]).2.Shared=-1:=by decide +kernel
 have f3:(Zk (tc c0) [109,97,120,45,97,103,101,61,50]).2.MaxAge=2:=by decide +kernel
 have hlt:z9v (Zk (tc c0) [109,97,120,45,97,103,101,61,50]).2=some 2000:=by
  unfold z9v
  rw [f1,f2,f3]
  rfl
 unfold x0k z9w
 rw [hcr]
 simp only [Option.bind_some]
 rw [if_neg (by simp)]
 show ((z5a [ql.mk ccL [109,97,120,45,97,103,101,61,50]]).bind _).bind _=_
 rw [hpar]
 simp only [Option.bind_some]
 rw [if_neg (by simp)]
 rw [hvy]
 simp only [Option.bind_some]
 rw [if_neg (by simp),hlt]
 rfl
theorem v3n:z9b=some true:=by
 have hk:=w7w
 unfold x0k at hk
 have hs:=w4v
 unfold x0j at hs
 obtain ⟨a,a1,a2⟩:=bnd hk
 obtain ⟨b,b1,b2⟩:=bnd hs
 simp only [Option.some.injEq,Bool.and_eq_true,decide_eq_true_eq] at a2 b2
 have h3:y3q [jn.mk [97] 1] 2=some ([[97],[97]],0):=by decide +kernel
 have h4:z4d [97,98]=some [89,87,73]:=by
  unfold z4d
  exact Zo.2 ⟨3,by decide +kernel⟩
 unfold z9b Zp
 rw [a1,b1,h3,h4]
 simp [a2.1,a2.2,b2.1,b2.2]
set_option linter.unusedSimpArgs false
set_option linter.unusedSectionVars false
set_option maxRecDepth 20000
theorem w0k (n:Nat) (st:Bs→Bs→zz) (a:Bs):∀ (l:List yq),(∀ x,x∈l→x.Scopes.length≤n)→(acS st a l).length≤l.length * n
 | [],_=>by simp [acS]
 | x::l,h=>by
  have ih:=w0k n st a l fun y hy=>h y (by simp [hy])
  have:=h x (by simp)
  rw [x3c,List.length_append,List.length_cons,Nat.add_mul,Nat.one_mul]
  split
  ·omega
  ·simp; omega
def z6f:Bs:=[97,112,112,49]
def akK:Bs:=[120,45,97,112,105,45,107,101,121]
def auK:Bs:=[97,117,116,104,111,114,105,122,97,116,105,111,110]
def keyK:Bs:=[107,101,121,45,49]
def hdK:ql:=ql.mk akK keyK
def rqW (at_:Int):xl:=xl.mk at_ [71,69,84] [97,46,98] [47] [] [] [hdK] []
theorem w5s (at_:Int) (hm:momP at_=true):z86 (rqW at_)=some 0:=by
 have hho:z4t [97,46,98]=some true:=by
  rw [v1w _ (by decide)]
  decide +kernel
 have hh:hdsP [hdK]:=⟨by simp,fun y hy=>by
  obtain rfl:y=hdK:=(by simpa using hy)
  exact ⟨(by show akK.length≤_; decide),(by show keyK.length≤_; decide)⟩⟩
 have h0:hdsE [hdK]=0:=by decide +kernel
 unfold z86 Wm rqW
 simp only
 rw [x08,hm,x06 _ (by decide),show tokB [71,69,84]=true from by decide +kernel,hho,w6h _ (by decide),show pthB [47]=true from by decide +kernel,w56 _ (by decide),show qryB []=true from by decide +kernel,x09 _ (by decide),show fldB []=true from by decide +kernel,(x8z [hdK] hh).1,h0]
 rfl
def hoW (sm:Bs) (sc:List Bs):vi:=vi.mk z6f sm sc 0 345686400000
def kpW (sm:Bs) (sc:List Bs):jm:=jm.mk [103,97,116,101] [115,104,111,112] [] [] [hoW sm sc] 0
section
variable {sm:Bs} {sc:List Bs} (hsm:smB sm=true) (hsc:sc.length≤8∧∀ x,x∈sc→x.length≤6∧scP x=true)
include hsm hsc
theorem scW:Sh sc∧scF sc=0:=by
 refine ⟨⟨by have:=hsc.1; omega,fun x hx=>by have:=(hsc.2 x hx).1; omega⟩,?_⟩
 unfold scF
 rw [if_neg (by have:=hsc.1; omega),if_pos (List.all_eq_true.2 fun x hx=>(hsc.2 x hx).2)]
theorem w7s:KeB (kpW sm sc):=by
 have hl:sm.length=16:=by
  unfold smB at hsm
  simp only [Bool.and_eq_true,decide_eq_true_eq] at hsm
  exact hsm.1
 refine ⟨(by show ([103,97,116,101]:Bs).length≤_; decide),(by show ([115,104,111,112]:Bs).length≤_; decide),⟨(by simp [kpW]),(fun x hx=>by cases hx)⟩,⟨(by simp [kpW]),(fun x hx=>by cases hx)⟩,⟨(by simp [kpW]),(fun x hx => ?_),(fun x hx => ?_)⟩⟩
 ·obtain rfl:x=hoW sm sc:=(by simpa [kpW] using hx)
  exact ⟨(by show z6f.length≤_; decide),(by show sm.length≤_; omega),(scW hsm hsc).1⟩
 ·obtain rfl:x=hoW sm sc:=(by simpa [kpW] using hx)
  show sc.length≤60
  have:=hsc.1; omega
theorem w7r:z4f (kpW sm sc)=some 0:=by
 rw [v4y _ (w7s hsm hsc)]
 refine congrArg some ?_
 have h1:hoF [hoW sm sc]=0:=by
  unfold hoF
  rw [if_neg (by simp)]
  have h2:ho1 [hoW sm sc] 0 (hoW sm sc)=0:=by
   unfold ho1 hoW
   simp only [hsm,(scW hsm hsc).2,show keyP z6f=true from by decide +kernel]
   simp [z5f,outP]
  show (if ho1 [hoW sm sc] 0 (hoW sm sc)≠0 then ho1 [hoW sm sc] 0 (hoW sm sc) else 0)=0
  rw [if_neg (by simp [h2])]
 unfold kpF kpW
 simp only [h1,show keyP [103,97,116,101]=true from by decide +kernel,show keyP [115,104,111,112]=true from by decide +kernel,show sgF []=0 from rfl,show rvF []=0 from rfl,show outP 0 0 600000=false from by decide]
 rfl
theorem v5b (hs:xg [103,97,116,101] keyK=some sm) (hid:lsP sc=sc) (v:Int) (hv:0≤v∧v < 345686400000):z4c (kpW sm sc) keyK v=some (wn.mk 2 z6f sc,0):=by
 have hsh:=(scW hsm hsc).1
 have hall:∀ x,x∈[hoW sm sc]→x.Scopes.length≤60∧Sh x.Scopes:=fun x hx=>by
  obtain rfl:x=hoW sm sc:=(by simpa using hx)
  exact ⟨(by show sc.length≤60; have:=hsc.1; omega),hsh⟩
 have e1:=x7u sm v [hoW sm sc] 0 (false,[],0,[]) hall (by simp) (by simp)
 have e2:[hoW sm sc].foldl (stK sm v) (false,[],0,[])=(true,sc,2,z6f):=by
  show stK sm v (false,[],0,[]) (hoW sm sc)=_
  unfold stK hoW
  rw [if_neg (by simp),if_pos ⟨by simp only; omega,.inl rfl⟩]
  simp
 rw [e2] at e1
 unfold z4c
 show (xg [103,97,116,101] keyK).bind _=_
 rw [hs]
 simp only [Option.bind_some]
 show (if [hoW sm sc].length≤1000000000 then forL _ _ 0 [hoW sm sc] (false,([]:List Bs),0,[]) else none)=_
 rw [if_pos (by simp)]
 refine e1.trans ?_
 unfold z3a
 rw [x7p _ hsh,hid]
 simp only [Option.bind_some]
 rw [if_neg (by simp),if_neg (by simp),if_neg (by have:=hsc.1; simp; omega)]
theorem v5a (hs:xg [103,97,116,101] keyK=some sm) (hid:lsP sc=sc) (v:Int) (hv:0≤v∧v < 345686400000) (hmo:momP v=true):z4g (kpW sm sc) (rqW v)=some (wn.mk 2 z6f sc,0):=by
 have hnm:∀ x,x∈[hdK]→nmOK x:=fun y hy=>by
  obtain rfl:y=hdK:=(by simpa using hy)
  exact ⟨(by show ascB akK=true; decide),(by show akK.length≤_; decide)⟩
 have hV1:uu [hdK] auK=some []:=by
  rw [(y07 [hdK] auK (by simp) hnm ⟨by decide,by decide⟩).1]
  decide +kernel
 have hV2:uu [hdK] akK=some [keyK]:=by
  rw [(y07 [hdK] akK (by simp) hnm ⟨by decide,by decide⟩).1]
  decide +kernel
 unfold z4g
 rw [w7r hsm hsc]
 simp only [Option.bind_some]
 rw [if_neg (by decide),w5s v hmo]
 simp only [Option.bind_some]
 rw [if_neg (by decide)]
 show (uu [hdK] auK).bind _=_
 rw [hV1]
 simp only [Option.bind_some]
 show (uu [hdK] akK).bind _=_
 rw [hV2]
 simp only [Option.bind_some]
 rw [if_neg (by simp),if_neg (by simp),if_neg (by simp),if_pos (by simp),List.getElem?_cons_zero]
 simp only [Option.bind_some]
 show (z4c (kpW sm sc) keyK v).bind _=_
 rw [v5b hsm hsc hs hid v hv]; rfl
end
theorem w2k (L:List Int):y4f L=some true:=by
 refine y9f ?_
 unfold y4f
 refine qf (w5x (k:=0) ⟨by simp,by simp⟩ (by omega)) fun r2 h2=>qf (w5y h2.2 (by omega)) fun r4 h4=>qf (z7r h4.2 (by omega) 0 10 (by omega)) fun r6 h6=>qf (w5w h6.2 (by omega) h2.1.2.1 h2.1.1 ⟨by have:=h4.1.2.2.1; omega,h4.1.2.2.2⟩ h4.1.1 (by omega)) fun r8 h8=>qf (z7r h8.2 (by omega) 0 5184000000 (by omega)) fun r10 h10 => ?_
 obtain ⟨⟨c0,cs,np,nsc⟩,_⟩:=h2
 obtain ⟨⟨a0,a1,a2,a3⟩,_⟩:=h4
 obtain ⟨⟨ev,e0⟩,_⟩:=h8
 have hv:=h10.1
 have hb:=cs.cb
 have hab:AB r4.1:=⟨by omega,a3⟩
 have hmo:momP r10.1=true:=by
  unfold momP
  simp only [Bool.and_eq_true,decide_eq_true_eq]
  omega
 have hm0:moF r10.1=0:=by unfold moF; rw [if_pos hmo]
 generalize hst:runS r2.1 (fun _ _=>xf) (cutT r10.1 r8.1)=st
 have hS:=w49 hb hab ev [97,112,112,49] r10.1 (by simp)
 rw [e0,a1,hm0,if_neg (by decide),hst] at hS
 obtain ⟨p1,p2⟩:=y84 c0
 have hz:(acS st [97,112,112,49] r2.1.Products).length≤8:=by
  have:=w0k 4 st [97,112,112,49] r2.1.Products fun x hx=>(nsc x hx).1
  omega
 have hzs:∀ x,x∈acS st [97,112,112,49] r2.1.Products→x.length≤6∧scP x=true:=fun x hx=>by
  obtain ⟨y,y1,y2⟩:=x3b hx
  exact ⟨(nsc y y1).2 x y2,List.all_eq_true.1 (p2 y y1).2.2 x y2⟩
 have hacs:∀ x,x∈r2.1.Products→(st [97,112,112,49] x.Key).State=2→∀ y,y∈x.Scopes→y∈acS st [97,112,112,49] r2.1.Products:=fun x hx h2 y hy=>by
  unfold acS
  exact List.mem_flatMap.2 ⟨x,hx,by rw [if_pos h2]; exact hy⟩
 generalize acS st [97,112,112,49] r2.1.Products=z at hS hz hzs hacs
 have hscR:scR z=(lsP z,0):=by unfold scR; rw [if_neg (by omega)]
 rw [hscR] at hS
 have hll:=w63 z
 have hsc:(lsP z).length≤8∧∀ x,x∈lsP z→x.length≤6∧scP x=true:=⟨by omega,fun x hx=>hzs x ((z14 z x).1 hx).1⟩
 obtain ⟨sm,s1,s2⟩:=w29 [103,97,116,101] keyK (by decide) (by decide)
 have hSum:z8h [103,97,116,101] [107,101,121,45,49]=some (sm,0):=by
  unfold z8h
  rw [x6d _ (by decide),show secF [103,97,116,101]=0 from by decide +kernel]
  simp only [Option.bind_some]
  rw [if_neg (by decide)]
  show (xg [103,97,116,101] keyK).bind _=_
  rw [s1]; rfl
 have hid:=w64 z
 have hC:=v5a s2 hsc s1 hid r10.1 (by omega) hmo
 rw [hS]
 simp only [Option.bind_some]
 rw [hSum]
 simp only [Option.bind_some]
 have hC':z4g (jm.mk [103,97,116,101] [115,104,111,112] [] [] ([(vi.mk [97,112,112,49] sm (lsP z) 0 345686400000)]) 0) (xl.mk r10.1 [71,69,84] [97,46,98] [47] [] [] ([(ql.mk [120,45,97,112,105,45,107,101,121] [107,101,121,45,49])]) [])=some (wn.mk 2 [97,112,112,49] (lsP z),0):=hC
 rw [hC']
 simp only [Option.bind_some]
 rw [if_neg (by simp),if_neg (by simp),if_neg (by simp),if_neg (by simp),if_neg (by simp),v3t _ (by omega)]
 simp only [Option.bind_some,Bool.not_true]
 unfold Yo
 rw [if_neg (by simp)]
 refine ok_g (by omega) ?_
 refine z3v (fun (j:Nat) (q:Unit)=>True) _ 0 _ trivial ?_ ?_
 ·rintro j x ⟨⟩ _ hx _
  rw [Nat.sub_zero] at hx
  have hx:=List.mem_of_getElem? hx
  have hsub:=w3d hb hab ev [97,112,112,49] x.Key r10.1 ⟨by simp,(hb.kp x hx).1⟩
  have hP:hasP r2.1 x.Key=true:=by
   unfold hasP
   exact List.any_eq_true.2 ⟨x,hx,by simp⟩
  rw [e0,a1,hP,hm0,if_neg (by decide),hst] at hsub
  have hxs:Sh x.Scopes:=(hb.kp x hx).2
  have hx0:scF x.Scopes=0:=by
   unfold scF
   rw [if_neg (by have:=(p2 x hx).2.1; omega),if_pos (p2 x hx).2.2]
  have hcov:z8j (lsP z) x.Scopes=some (cvA (lsP z) x.Scopes,0):=by
   unfold z8j
   rw [w67 _ _ (scW s2 hsc).1 hxs,(scW s2 hsc).2,hx0]
   simp only [Option.bind_some]
   rw [if_neg (by decide),v4i _ _ (scW s2 hsc).1 hxs]
   rfl
  unfold y45
  rw [hsub]
  simp only [Option.bind_some]
  rw [hcov]
  simp only [Option.bind_some]
  rw [if_neg (by
   simp only [Bool.or_eq_true,Bool.and_eq_true,decide_eq_true_eq,ne_eq,not_true_eq_false,false_or,not_and,Bool.not_eq_true']
   intro h2
   rw [w7b (fun y hy=>(hzs y hy).2) (hacs x hx h2)]
   simp)]
  exact qa trivial
 ·rintro ⟨⟩ _
  unfold y46
  rw [v3n]
  exact qa rfl
end Go.Proofs.YtbndlmnjeofkdacGreatDoor
