/- A day of calls: what the program's own functions compute, and the objects that they turn. -/
import Derived.Test.YtgdijjmdfcgifaaGreatXdw4
import Derived.Test.YtgdijjmdfcgifaaGreatFk
namespace Go.Proofs.YtgdijjmdfcgifaaGreat
open Go.RowKit Go.ChangeMaps Go.MapKept
set_option linter.unusedVariables false
set_option maxRecDepth 100000
noncomputable def tsB (t:List (Int×Bool)) (i:Int):Bool:=(lkG t i).getD false
noncomputable def z11 (sd:qj) (v3:Int) (i:Int):Option Bool:=(z9v sd i v3).bind fun b=>some (!b)
noncomputable def z36 (sd:qj) (v3:Int) (t:List (Int×Bool)) (i:Int):Option Bool:=
 (z11 sd v3 i).bind fun b=>if b=true then (if -9223372036854775808≤i∧i≤9223372036854775807 then some (!tsB t i) else none) else some false
noncomputable def y1d (k:Nat) (x:zt) (s:List Int):Option (List Int ⊕ List Int):=(at? s x.instance_).bind fun a=>some (.inl (s.set x.instance_.toNat (wr (a+1))))
noncomputable def x0x (s:List Int):Option (List Int):=some s
noncomputable def z98 (n:Nat) (ts:List zt):Option (List Int):=if ts.length≤1000000000 then forL y1d x0x 0 ts (List.replicate n 0) else none
noncomputable def z7c (ins:List zl) (ts:List zt) (sd:qj) (t:List (Int×Bool)) (v3:Int):Option Int:=
 if ins.length≤1000000000 then (z98 ins.length ts).bind fun l=>(z3s ins l (z36 sd v3 t)).bind fun i=>if decide (i < 0)=true then z3s ins l (z11 sd v3) else some i else none
def finC (c:yj) (v2 st:Int):yj:=⟨2,c.start_,c.tried_,⟨c.out_.Call,c.out_.Tries,v2,st⟩⟩
abbrev tryC (c:yj) (x:qc):yj:=⟨c.state_,c.start_,c.tried_,⟨c.out_.Call,c.out_.Tries++[x],c.out_.Done,c.out_.Status⟩⟩
noncomputable def Wd (s:qb) (ats again:List Int) (sd:qj) (c:yj) (t:zt):Option (List Int×qj×yj):=
 (at? s.Instances t.instance_).bind fun x=>if c.out_.Tries.length≤1000000 then (z58 sd t.instance_ t.end_ t.status_).bind fun sd2 =>
  (z1q t.status_).bind fun b=>if (!b || decide (((c.out_.Tries++[(⟨x.Key,t.sent_,t.end_,t.status_⟩:qc)]).length:Int)=s.Tries))=true then some (again,sd2,finC (tryC c ⟨x.Key,t.sent_,t.end_,t.status_⟩) t.end_ t.status_) else
   (z6b s.Budget ats again t.end_).bind fun q=>if (!q)=true then some (again,sd2,finC (tryC c ⟨x.Key,t.sent_,t.end_,t.status_⟩) t.end_ t.status_) else
    if again.length≤1000000 then (Qz s.Wait (wr (((c.out_.Tries++[(⟨x.Key,t.sent_,t.end_,t.status_⟩:qc)]).length:Int) - 1)) s.MostWait).bind fun d =>
     some (again++[t.end_],sd2,⟨0,wr (t.end_+d),c.tried_,⟨c.out_.Call,c.out_.Tries++[⟨x.Key,t.sent_,t.end_,t.status_⟩],c.out_.Done,c.out_.Status⟩⟩) else none else none
noncomputable def z6i (l:List qc):Option Int:=if decide ((0:Int) < (l.length:Int))=true then (at? l (wr ((l.length:Int) - 1))).bind fun x=>some x.Status else some 0
noncomputable def uk (s:qb) (ats again:List Int) (ts:List zt) (sd:qj) (c:yj) (k i v3:Int) (e st:Int):Option (List Int×List zt×qj×yj):=
 if -9223372036854775808≤i∧i≤9223372036854775807 then (if decide (e=v3)=true then (Wd s ats again sd ⟨1,c.start_,ptG c.tried_ i true,c.out_⟩ ⟨k,i,v3,e,st⟩).bind fun r=>some (r.1,ts,r.2.1,r.2.2) else
  if ts.length≤1000000 then some (again,ts++[⟨k,i,v3,e,st⟩],sd,⟨1,c.start_,ptG c.tried_ i true,c.out_⟩) else none) else none
noncomputable def We (s:qb) (ph:List zz) (ats again:List Int) (ts:List zt) (sd:qj) (c:yj) (k v3:Int):Option (List Int×List zt×qj×yj):=
 (z7c s.Instances ts sd c.tried_ v3).bind fun i=>if decide (i < 0)=true then (z6i c.out_.Tries).bind fun st=>some (again,ts,sd,finC c v3 st) else
  (z3p ⟨s,ph,[],[],none,[],[]⟩ i v3).bind fun x=>if (x.2 && decide (x.1.Took≤s.Timeout))=true then uk s ats again ts sd c k i v3 (wr (v3+x.1.Took)) x.1.Status else uk s ats again ts sd c k i v3 (wr (v3+s.Timeout)) 0
def seeN (m:Int) (a:Int×Bool):Int×Bool:=if (!a.2 || decide (m < a.1))=true then (m,true) else a
noncomputable def y8j (k:Nat) (x:zt) (a:Int×Bool):Option ((Int×Bool) ⊕ (Int×Bool)):=some (.inl (seeN x.end_ a))
noncomputable def z9p (k:Nat) (x:yj) (a:Int×Bool):Option ((Int×Bool) ⊕ (Int×Bool)):=if decide (x.state_=0)=true then some (.inl (seeN x.start_ a)) else some (.inl a)
noncomputable def z9q (a:Int×Bool):Option (Int×Bool):=some a
noncomputable def z3u (ts:List zt) (cs:List yj):Option (Int×Bool):=
 if ts.length≤1000000000∧cs.length≤1000000000 then (forL y8j z9q 0 ts (0,false)).bind fun a=>forL z9p z9q 0 cs a else none
noncomputable abbrev C_pc (c:yj):List V:=[zx [y1o c] 0 0]
structure Dc where
 s:qb
 ph:List zz
 ats:List Int
 b1:Nat
 b2:Nat
 bs:List Nat
structure Dv where
 again:List Int
 sd:qj
 tries:List zt
 ha:Value
 hs:Value
 ht:Value
abbrev vbs (bs:List Nat):V:=vlst (bs.map fun b=>[vval (PB b)])
abbrev plU (s:qb) (ph:List zz) (u v w x y:V):List V:=[vlst (List.map ya s.Instances),vint s.Tries,vint s.Timeout,vint s.Wait,vint s.MostWait,vint s.Budget.Window,vint s.Budget.Least,vint s.Budget.Part,vint s.Outliers.Fails,vint s.Outliers.Base,vint s.Outliers.Most,vint s.Outliers.Share,vlst (List.map qq ph),u,v,w,x,y]
abbrev oP (D:Dc) (v:Dv):AObj := .box (some D.b1) 79 [.dat (vlst (List.map ya D.s.Instances)),.dat (vint D.s.Tries),.dat (vint D.s.Timeout),.dat (vint D.s.Wait),.dat (vint D.s.MostWait),.dat (vint D.s.Budget.Window),.dat (vint D.s.Budget.Least),.dat (vint D.s.Budget.Part),.dat (vint D.s.Outliers.Fails),.dat (vint D.s.Outliers.Base),.dat (vint D.s.Outliers.Most),.dat (vint D.s.Outliers.Share),.dat (vlst (List.map qq D.ph)),.dat (vlst (List.map yl D.ats)),.dat (vval v.ha),.dat (vval (PB D.b2)),.dat (vbs D.bs),.dat (vval v.ht)]
abbrev oS (D:Dc) (v:Dv):AObj := .box (some D.b2) 75 [.dat (vint v.sd.o_.Fails),.dat (vint v.sd.o_.Base),.dat (vint v.sd.o_.Most),.dat (vint v.sd.o_.Share),.dat (vval v.hs)]
abbrev oL (v:Dv):AObj := .rowA v.hs 170 3 (List.map ul v.sd.list_)
abbrev oA (v:Dv):AObj := .rowA v.ha 3 1 (List.map yl v.again)
abbrev oT (v:Dv):AObj := .rowA v.ht 122 5 (List.map yv v.tries)
abbrev oC (b m:Nat) (h:Value) (c:yj):AObj := .box (some b) 86 [.dat (vint c.state_),.dat (vint c.start_),.dat (vval (.map (some m))),.dat (vstr c.out_.Call),.dat (vval h),.dat (vint c.out_.Done),.dat (vint c.out_.Status)]
noncomputable abbrev oM (m:Nat) (c:yj):AObj := .opq (some m) (z3m Qd c.tried_)
abbrev oR (h:Value) (c:yj):AObj := .rowA h 108 4 (List.map jm c.out_.Tries)
noncomputable abbrev litO (D:Dc) (v:Dv) (b m:Nat) (h:Value) (c:yj):List (Nat×AObj):=[(1,oP D v),(2,oS D v),(3,oL v),(4,oA v),(5,oT v),(50,oC b m h c),(51,oM m c),(52,oR h c)]
section
variable {P:Program} {X:Ctx} {Q:Exit→(Nat→Slot)→Own→Prop} {f:Nat→Slot} {own:Own} {c:Code}
theorem vu (i j id b:Nat) {t:TypeId} {cs:List Slot} {an:Option Nat} {R:Obj→Prop} {s:Slot} (s':Slot) (hb:own id=some (some (.opq (some b) R))) (ho:own i=some (some (.box an t cs))) (hj:cs[j]?=some s)
  (hs:∀ (g:Gh) (w:World) (M:Blks) (v:Value),g.bl id=some b→RepS g w M s v→RepS g w M s' v)
  (h:AWP P X c Q f (upl own [(i,some (some (.box an t (cs.set j s'))))])):AWP P X c Q f own:=by
 intro g a w hr
 obtain ⟨b',l',r1,r0,_⟩:=hr.ob id _ hb
 have hbb:b=b':=r0 b rfl
 subst hbb
 obtain ⟨q,l,q1,q0,q2,q3,q4⟩:=hr.ob i _ ho
 refine h g a w (hr.re1 i ho rfl (fun M' he=>⟨q,l,q1,q0,q2,by rw [List.length_set]; exact q3,fun k s0 hk => ?_⟩) (fun e size es h=>by cases h))
 rw [List.getElem?_set] at hk
 split at hk
 ·rename_i hjk
  subst hjk
  split at hk
  ·cases hk
   obtain ⟨x,x1,x2,x3⟩:=q4 j s hj
   exact ⟨x,x1,hs g w _ x r1 (x2.keep he (Gh.le_refl g)),x3⟩
  ·cases hk
 ·obtain ⟨x,x1,x2,x3⟩:=q4 k s0 hk
  exact ⟨x,x1,x2.keep he (Gh.le_refl g),x3⟩
theorem z1l {g:Gh} {w:World} {M:Blks} {v:Value} {id b:Nat} (hb:g.bl id=some b) (h:RepS g w M (.dat (vval (.map (some b)))) v):RepS g w M (.mp id) v:=⟨b,hb,h⟩
theorem ju {g:Gh} {w:World} {M:Blks} {v:Value} {id b:Nat} (hb:g.bl id=some b) (h:RepS g w M (.mp id) v):RepS g w M (.dat (vval (.map (some b)))) v:=by
 obtain ⟨b',h1,h2⟩:=h
 rw [hb] at h1; cases h1; exact h2
end
end Go.Proofs.YtgdijjmdfcgifaaGreat
