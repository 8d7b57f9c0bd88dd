/- A day of calls, the document's way: what its functions compute; the objects that they turn. -/
import Derived.Test.YtgdijjmdfcgifaaGreatXdh7
namespace Go.Proofs.YtgdijjmdfcgifaaGreat
open Go.RowKit Go.ChangeMaps Go.MapKept
set_option linter.unusedVariables false
set_option maxRecDepth 100000
structure qv where
 call_:Int
 number_:Int
 try_:qc
abbrev xn (x:qv):List V:=[vint x.call_,vint x.number_,vstr x.try_.Instance,vint x.try_.Sent,vint x.try_.Done,vint x.try_.Status]
noncomputable def z7z (x:zl) (t:qc):Option Bool:=y3s t x
noncomputable def z70 (out:List Bs) (tries:List qc) (k:Nat) (x:zl) (s:List zl×List zl):Option ((List zl×List zl) ⊕ List zl):=
 (z95 out x.Key).bind fun b=>if b=true then some (.inl s) else if s.1.length≤1000000∧s.2.length≤1000000 then
  (z96 tries (z7z x)).bind fun q=>if (!q)=true then some (.inl (s.1++[x],s.2++[x])) else some (.inl (s.1,s.2++[x])) else none
noncomputable def z71 (s:List zl×List zl):Option (List zl):=if decide ((0:Int) < (s.1.length:Int))=true then some s.1 else some s.2
noncomputable def z3n (s:qb) (bench:qn) (tries:List qc) (v3:Int):Option (List zl):=
 (z3y bench v3).bind fun out=>if s.Instances.length≤1000000000 then forL (z70 out tries) z71 0 s.Instances ([],[]) else none
noncomputable def y0k (o:yf):Option Int:=if decide ((0:Int) < (o.Tries.length:Int))=true then (at? o.Tries (wr ((o.Tries.length:Int) - 1))).bind fun x=>some x.Status else some o.Status
noncomputable def z57 (x:zl) (k:Nat) (u:qv) (n:Int):Option (Int ⊕ Int):=if decide (u.try_.Instance=x.Key)=true then some (.inl (wr (n+1))) else some (.inl n)
noncomputable def y3k (n:Int):Option Int:=some n
noncomputable def z7d (way:List qv) (k:Nat) (x:zl) (s:List jl):Option (List jl ⊕ List jl):=
 if way.length≤1000000∧s.length≤1000000 then (forL (z57 x) y3k 0 way 0).bind fun n=>some (.inl (s++[⟨x.Key,n⟩])) else none
noncomputable def y3u (s:List jl):Option (List jl):=some s
noncomputable def Qw (s:qb) (best:Bs) (v3:Int) (k:Nat) (x:zz) (t:Int×Int):Option ((Int×Int) ⊕ (Int×Int)):=
 if (((decide (x.Instance=best) && decide (x.Time.From≤v3)) && decide (v3 < x.Time.To)) && decide (x.Took≤s.Timeout))=true then some (.inl (wr (v3+x.Took),x.Status)) else some (.inl t)
noncomputable def z52 (t:Int×Int):Option (Int×Int):=some t
abbrev StS:=yf×List qv×Int
noncomputable def Ys (s:qb) (ph:List zz) (bench:qn) (o:yf) (way:List qv) (sent call v3:Int):Option StS:=
 (z3n s bench o.Tries v3).bind fun l=>if decide ((l.length:Int)=0)=true then (y0k o).bind fun st=>some (⟨o.Call,o.Tries,v3,st⟩,way,sent) else
  if l.length≤1000000000∧ph.length≤1000000000∧way.length≤1000000 then (forL (z7d way) y3u 0 l []).bind fun ld=>(z6u l ld).bind fun best =>
   (forL (Qw s best v3) z52 0 ph (wr (v3+s.Timeout),0)).bind fun t=>some (o,way++[⟨call,sent,⟨best,v3,t.1,t.2⟩⟩],wr (sent+1)) else none
abbrev StD:=qn×yf×List Int×Option Int
abbrev tryO (o:yf) (t:qc):yf:=⟨o.Call,o.Tries++[t],o.Done,o.Status⟩
noncomputable def z10 (s:qb) (starts:List Int) (bench:qn) (o:yf) (again:List Int) (u:qv):Option StD:=
 if o.Tries.length≤1000000 then (z6l bench ⟨u.try_.Done,u.try_.Instance,u.try_.Status⟩).bind fun bench2=>(z3x u.try_.Status).bind fun b =>
  if (!b || decide (((o.Tries++[u.try_]).length:Int)=s.Tries))=true then some (bench2,⟨o.Call,o.Tries++[u.try_],u.try_.Done,u.try_.Status⟩,again,none) else
   (z6s s.Budget starts again u.try_.Done).bind fun q=>if (!q)=true then some (bench2,⟨o.Call,o.Tries++[u.try_],u.try_.Done,u.try_.Status⟩,again,none) else
    if again.length≤1000000 then (z32 s.Wait s.MostWait (wr (((o.Tries++[u.try_]).length:Int)+1))).bind fun d=>some (bench2,tryO o u.try_,again++[u.try_.Done],some (wr (u.try_.Done+d))) else none else none
structure Ec where
 s:qb
 ph:List zz
 calls:List yi
 starts:List Int
 b1:Nat
 b6:Nat
 m7:Nat
 m8:Nat
 m9:Nat
structure Ev where
 out:List yf
 next:List Int
 way:List qv
 sent:Int
 again:List Int
 bench:qn
 ho:Value
 hx:Value
 hy:Value
 ha:Value
abbrev outE (fh:Nat→Value) (l:List yf):List (List V):=l.mapIdx fun k o=>[vstr o.Call,vhd (fh k),vint o.Done,vint o.Status]
abbrev dO (E:Ec) (v:Ev):AObj := .box (some E.b1) 104 [.dat (vlst (List.map ya E.s.Instances)),.dat (vint E.s.Tries),.dat (vint E.s.Timeout),.dat (vint E.s.Wait),.dat (vint E.s.MostWait),.dat (vint E.s.Budget.Window),.dat (vint E.s.Budget.Least),.dat (vint E.s.Budget.Part),.dat (vint E.s.Outliers.Fails),.dat (vint E.s.Outliers.Base),.dat (vint E.s.Outliers.Most),.dat (vint E.s.Outliers.Share),.dat (vlst (List.map qq E.ph)),.dat (vlst (List.map wz E.calls)),.dat (vval v.ho),.dat (vval v.hx),.dat (vval v.hy),.dat (vint v.sent),.dat (vval v.ha),.dat (vval (PB E.b6)),.dat (vlst (List.map yl E.starts))]
abbrev dR (fh:Nat→Value) (v:Ev):AObj := .rowA v.ho 84 4 (outE fh v.out)
abbrev dX (v:Ev):AObj := .rowA v.hx 3 1 (List.map yl v.next)
abbrev dY (v:Ev):AObj := .rowA v.hy 139 6 (List.map xn v.way)
abbrev dA (v:Ev):AObj := .rowA v.ha 3 1 (List.map yl v.again)
abbrev dB (E:Ec) (v:Ev):AObj := .box (some E.b6) 137 [.dat (vlst (List.map ya v.bench.l_)),.dat (vint v.bench.o_.Fails),.dat (vint v.bench.o_.Base),.dat (vint v.bench.o_.Most),.dat (vint v.bench.o_.Share),.dat (vval (.map (some E.m7))),.dat (vval (.map (some E.m8))),.dat (vval (.map (some E.m9)))]
abbrev dM (m:Nat) (p:Nat×(Bs→Int)):AObj := .opq (some m) (vj Tryz.prog 9 3 p.1 p.2)
abbrev dT (h:Value) (l:List qc):AObj := .rowA h 108 4 (List.map jm l)
abbrev dayO (E:Ec) (fh:Nat→Value) (v:Ev):List (Nat×AObj):=[(1,dO E v),(2,dR fh v),(3,dX v),(4,dY v),(5,dA v),(6,dB E v),(7,dM E.m7 v.bench.row_),(8,dM E.m8 v.bench.times_),(9,dM E.m9 v.bench.until_)]
abbrev dyU (s:qb) (ph:List zz) (a b c d e f g h:V):List V:=[vlst (List.map ya s.Instances),vint s.Tries,vint s.Timeout,vint s.Wait,vint s.MostWait,vint s.Budget.Window,vint s.Budget.Least,vint s.Budget.Part,vint s.Outliers.Fails,vint s.Outliers.Base,vint s.Outliers.Most,vint s.Outliers.Share,vlst (List.map qq ph),a,b,c,d,e,f,g,h]
theorem wh {fh:Nat→Value} {l:List yf}:(outE fh l).length=l.length:=List.length_mapIdx
theorem z9n {fh:Nat→Value} {l:List yf} {k:Nat} {o:yf} (h:l[k]?=some o):(outE fh l)[k]?=some [vstr o.Call,vhd (fh k),vint o.Done,vint o.Status]:=by
 show (l.mapIdx _)[k]?=_
 rw [List.getElem?_mapIdx,h]; rfl
theorem z54 {fh:Nat→Value} {l:List yf} {k:Nat} {h:Value} {o:yf} (hk:k < l.length):outE (fxV fh k h) (l.set k o)=(outE fh l).set k [vstr o.Call,vhd h,vint o.Done,vint o.Status]:=by
 refine List.ext_getElem? fun j => ?_
 show ((l.set k o).mapIdx _)[j]?=((l.mapIdx _).set k _)[j]?
 rw [List.getElem?_mapIdx,List.getElem?_set,List.getElem?_set,List.getElem?_mapIdx,List.length_mapIdx]
 by_cases hj:k=j
 ·subst hj
  rw [if_pos rfl,if_pos hk,if_pos rfl,if_pos hk]
  simp [y05]
 ·rw [if_neg hj,if_neg hj]
  cases l[j]? with
  | none=>rfl
  | some q=>simp [z4r (Ne.symm hj)]
theorem y77 {fh:Nat→Value} {l:List yf} {k:Nat} {o:yf} (hk:k < l.length):outE fh (l.set k o)=(outE fh l).set k [vstr o.Call,vhd (fh k),vint o.Done,vint o.Status]:=by
 have e:fxV fh k (fh k)=fh:=by
  funext j
  unfold fxV
  split
  ·rename_i h; rw [h]
  ·rfl
 rw [← z54 (h:=fh k) hk,e]
theorem y6z {α:Type} {l:List α} {k:Nat} {x:α} (h:l[k]?=some x):l.set k x=l:=by
 refine List.ext_getElem? fun j => ?_
 rw [List.getElem?_set]
 by_cases hj:k=j
 ·subst hj
  rw [if_pos rfl,if_pos (List.getElem?_eq_some_iff.1 h).1,h]
 ·rw [if_neg hj]
theorem x5h {α:Type} {l:List α} {k:Nat} {a b:α}:(l.set k a).set k b=l.set k b:=by rw [List.set_set]
end Go.Proofs.YtgdijjmdfcgifaaGreat
