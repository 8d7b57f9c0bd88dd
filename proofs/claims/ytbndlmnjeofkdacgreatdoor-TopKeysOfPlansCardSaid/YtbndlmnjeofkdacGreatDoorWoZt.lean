/- Plain: loops turn by turn, strings and their bytes as numbers, words joined, strings cut at a byte, trimming. -/
import Derived.Test.YtbndlmnjeofkdacGreatDoorEgZt
import Derived.Test.YtbndlmnjeofkdacGreatDoorMl
import Derived.Test.YtbndlmnjeofkdacGreatDoorRng
import Derived.Test.YtbndlmnjeofkdacGreatDoorVbZt
namespace Go.Proofs.YtbndlmnjeofkdacGreatDoor
set_option linter.unusedVariables false
set_option linter.unusedSimpArgs false
set_option linter.unusedSectionVars false
set_option maxRecDepth 20000
def gA (a:yd) (late:Bool):Int:=if (keyP a.Key && keyP a.Owner)=false then 5 else if late=true then 7 else 0
def apF (l:List yd):Int:=if 500 < l.length then 2 else chR yd.Key gA l []
def AB (l:List yd):Prop:=l.length≤1000∧∀ x,x∈l→x.Key.length≤100∧x.Owner.length≤100
theorem v2w (x:yd):gA x true≠0:=by unfold gA; split <;> simp
theorem v2x (x:yd):leB x.Key []=false∨∀ a b,gA x a=gA x b:=by
 cases hk:keyP x.Key
 ·exact .inr fun a b=>by simp [gA,hk]
 ·exact .inl (z9y hk)
theorem x2x {l:List yd} (h:apF l=0):xm yd.Key l:=by
 unfold apF at h
 split at h
 ·omega
 ·exact (y0w v2w l [] h).1.1
theorem v48 (l : List yd) (hb : AB l) : z8y l = some (apF l) := by
  have hn := hb.1
  unfold z8y apF
  by_cases h1 : 500 < l.length
  · rw [if_pos (by simp; omega), if_pos h1]
  · rw [if_neg (by simp; omega), if_neg h1, if_pos (by omega)]
    rw [y0y (key := yd.Key) (g := gA) v2x l (r := some 0) rfl l 0 [] (.inl ⟨rfl, rfl⟩) (fun j => by simp) fun j x hx => ?_]
    · split
      · rfl
      · next h => have : chR yd.Key gA l [] = 0 := by simpa using h
                  rw [this]
    · obtain ⟨k1, k2⟩ := hb.2 x (List.mem_of_getElem? hx)
      have hJ : ∀ v, z08 l j x v = if v = true then some (.inr 5) else if je yd.Key l j x = true then some (.inr 7) else some (.inl ()) := by
        intro v
        unfold z08 z3s
        cases v
        · simp only [Bool.false_eq_true, if_false]
          by_cases h0 : 0 < j
          · obtain ⟨y, hy⟩ : ∃ y, l[j - 1]? = some y := ⟨_, List.getElem?_eq_getElem (by have := jj hx; omega)⟩
            have e1 : at? l ((j : Int) - 1) = some y := by rw [z2p h0]; exact hy
            have e2 : decide (0 < (j : Int)) = true := by simpa using h0
            have e3 : je yd.Key l j x = leB x.Key y.Key := by simp [je, h0, hy]
            simp only [e2, if_true, e1, Option.bind_some, e3]
            rfl
          · have e2 : decide (0 < (j : Int)) = false := by simpa using h0
            have e3 : je yd.Key l j x = false := by simp [je, h0]
            rw [e2, e3]; rfl
        · simp
      unfold y3b
      simp only [Yj _ (show x.Key.length ≤ 1000000000 by omega), Yj _ (show x.Owner.length ≤ 1000000000 by omega), Option.bind_some, hJ]
      unfold gA
      cases keyP x.Key <;> cases keyP x.Owner <;> cases je yd.Key l j x <;> simp
theorem v5t (l : List yd) (hb : AB l) : z9j l = some (apF l) := by
  have hn := hb.1
  unfold z9j apF
  by_cases h1 : 500 < l.length
  · rw [if_pos (by simp; omega), if_pos h1]
  · rw [if_neg (by simp; omega), if_neg h1, if_pos (by omega)]
    rw [y0x (key := yd.Key) (g := gA) (fin := fun s => y5h s) (r := some 0) (fun s => rfl) l 0 [] fun j x s hx => ?_]
    · split
      · rfl
      · next h => have : chR yd.Key gA l [] = 0 := by simpa using h
                  rw [this]
    · obtain ⟨k1, k2⟩ := hb.2 x hx
      unfold y5g z5w
      simp only [z5h _ (show x.Key.length ≤ 1000000000 by omega), z5h _ (show x.Owner.length ≤ 1000000000 by omega), Option.bind_some]
      have e : (Op.bytesLess x.Key s || x.Key == s) = leB x.Key s := rfl
      rw [e]
      unfold gA
      cases keyP x.Key <;> cases keyP x.Owner <;> cases leB x.Key s <;> simp
def hasA (l:List yd) (key:Bs):Bool:=l.any fun x=>decide (x.Key=key)
theorem x2w (l:List yd) (key:Bs) (hl:l.length≤100000) (hr:xm yd.Key l):Ok (z1w l key) fun r=>r.2=hasA l key∧(r.2=true→r.1=fdx (fun x:yd=>decide (x.Key=key)) 0 l):=by
 unfold z1w
 have h:=x1t yd.Key l key (p:=fun (a0:yd) (a1:Bs)=>z4r a0 a1) (by omega) (fun x _=>rfl) hr
 exact qf (o:=y39 l key (fun (a0:yd) (a1:Bs)=>z4r a0 a1)) h fun r hr=>qa hr
theorem w54 (l:List yd) (key:Bs) (hl:l.length≤100000):z9k l key=some (fdx (fun x:yd=>decide (x.Key=key)) 0 l):=by
 unfold z9k
 have h:y34 l (fun (a0:yd)=>z42 a0 key)=some (fdx (fun x:yd=>decide (x.Key=key)) 0 l):=
  z50 l (p:=fun (a0:yd)=>z42 a0 key) (fun x=>decide (x.Key=key)) (by omega) fun x _=>rfl
 rw [h]; rfl
def plP (c:yh) (x:zq):Bool:=match at? c.Plans (ixL c x.Plan) with | some p=>decide (p.Product≠x.Product) | none=>false
def ef1 (c:yh) (apps:List yd) (l:List zq) (k:Nat) (x:zq):Int:=
 if momP x.At=false then 1 else if (hasA apps x.App && hasP c x.Product)=false then 8 else if outP x.Kind 1 6=true then 4 else if (decide (x.Kind≠1) && decide (x.Plan≠[]))=true then 3 else
 if (decide (x.Kind=1) && !hasL c x.Plan)=true then 8 else if (decide (x.Kind=1) && plP c x)=true then 16 else if ud l k x=true then 7 else 0
def eF (c:yh) (apps:List yd) (l:List zq):Int:=
 if catF c≠0 then catF c else if apF apps≠0 then apF apps else if 1000 < l.length then 2 else feI (ef1 c apps l) 0 l
section
variable {c:yh} {apps:List yd} {l:List zq} (hb:CB c) (ha:AB apps) (hl:∀ x,x∈l→EB x)
include hb ha hl
theorem v3x (h1:catF c=0) (h2:apF apps=0) (k:Nat) (x:zq) (hx:l[k]?=some x) (hk:l.length≤1000000):z8t c apps l (k:Int)=some (ef1 c apps l k x):=by
 obtain ⟨⟨hp,hpl⟩,_⟩:=y55 h1
 have hlt:=jj hx
 have hJ:z04 l (k:Int) x=some (if ud l k x=true then 7 else 0):=by
  unfold z04 z3p
  by_cases h0:0 < k
  ·obtain ⟨y,hy⟩:∃ y,l[k - 1]?=some y:=⟨_,List.getElem?_eq_getElem (by omega)⟩
   have e1:at? l (wr ((k:Int) - 1))=some y:=by rw [ww (by omega),z2p h0]; exact hy
   have e2:decide (0 < (k:Int))=true:=by simpa using h0
   have e3:ud l k x=decide (0≤orE y x):=by simp [ud,h0,hy]
   simp only [e2,if_true,e1,Option.bind_some,e3,v4u]
   by_cases h5:0≤orE y x <;> simp [h5]
  ·have e2:decide (0 < (k:Int))=false:=by simpa using h0
   have e3:ud l k x=false:=by simp [ud,h0]
   rw [e2,e3]; rfl
 obtain ⟨ra,a1,a2,_⟩:=x2w apps x.App (by have:=ha.1; omega) (x2x h2)
 obtain ⟨rp,p1,p2⟩:=y83 c x.Product hb.np hp
 unfold z8t
 rw [Zu,hx]
 simp only [Option.bind_some,x08,a1,a2,p1,p2,Wj,hJ]
 unfold ef1
 rcases Bool.eq_false_or_eq_true (momP x.At) with b1 | b1 <;> rcases Bool.eq_false_or_eq_true (hasA apps x.App) with b2 | b2 <;> rcases Bool.eq_false_or_eq_true (hasP c x.Product) with b3 | b3 <;> simp only [b1,b2,b3,Bool.not_true,Bool.not_false,Bool.false_eq_true,if_true,if_false,Bool.and_true,Bool.and_false,reduceCtorEq] <;> (try rfl)
 rcases Bool.eq_false_or_eq_true (outP x.Kind 1 6) with b4 | b4
 ·simp [b4]
 ·simp only [b4,Bool.false_eq_true,if_false]
  by_cases b5:x.Kind=1
  ·rcases y89 c x.Plan hb.nl hpl with ⟨q1,q2,q3⟩ | ⟨q1,q2,y,q3,q4,q5,q6⟩
   ·simp [b5,q1,q3]
   ·have q7:plP c x=decide (y.Product≠x.Product):=by unfold plP; rw [q3]
    simp only [b5,q1,q6,q7,ne_eq,not_true_eq_false,decide_false,decide_true,Bool.and_false,Bool.false_and,Bool.true_and,Bool.not_true,Bool.false_eq_true,if_false,if_true,Option.bind_some]
    by_cases q8:y.Product=x.Product <;> simp [q8]
  ·by_cases b6:x.Plan=[] <;> simp [b5,b6]
theorem v3w (h1:catF c=0) (h2:apF apps=0) (k:Nat) (x:zq) (hx:l[k]?=some x):y0q c apps l k x=if ef1 c apps l k x≠0 then some (.inr (ef1 c apps l k x)) else some (.inl ()):=by
 obtain ⟨⟨hp,hpl⟩,_⟩:=y55 h1
 have hJ:∀ v,z2h l k x v=if v=true then some (.inr 16) else if ud l k x=true then some (.inr 7) else some (.inl ()):=by
  intro v
  unfold z2h z5t
  cases v
  ·simp only [Bool.false_eq_true,if_false]
   by_cases h0:0 < k
   ·obtain ⟨y,hy⟩:∃ y,l[k - 1]?=some y:=⟨_,List.getElem?_eq_getElem (by have:=jj hx; omega)⟩
    have e1:at? l ((k:Int) - 1)=some y:=by rw [z2p h0]; exact hy
    have e2:decide (0 < (k:Int))=true:=by simpa using h0
    have e3:ud l k x=decide (0≤orE y x):=by simp [ud,h0,hy]
    simp only [e2,if_true,e1,Option.bind_some,e3,y3d y x (hl y (List.mem_of_getElem? hy)).t (hl x (List.mem_of_getElem? hx)).t]
   ·have e2:decide (0 < (k:Int))=false:=by simpa using h0
    have e3:ud l k x=false:=by simp [ud,h0]
    rw [e2,e3]; rfl
  ·simp
 have e1:Ye c x.Plan=some (ixL c x.Plan):=x6n c x.Plan hb.nl
 have e2:decide (fdx (fun y:yd=>decide (y.Key=x.App)) 0 apps < 0) = !hasA apps x.App:=z52 _ _
 have e3:decide (fdx (fun y:yq=>decide (y.Key=x.Product)) 0 c.Products < 0) = !hasP c x.Product:=z52 _ _
 have e4:decide (ixL c x.Plan < 0) = !hasL c x.Plan:=z52 (fun y:yj=>decide (y.Key=x.Plan)) c.Plans
 unfold y0q z5u
 simp only [e1,w6w,w54 apps x.App (by have:=ha.1; omega),x6l c x.Product hb.np,z0a,Option.bind_some,e2,e3,e4,hJ]
 unfold ef1
 rcases Bool.eq_false_or_eq_true (momP x.At) with b1 | b1 <;> rcases Bool.eq_false_or_eq_true (hasA apps x.App) with b2 | b2 <;> rcases Bool.eq_false_or_eq_true (hasP c x.Product) with b3 | b3 <;> simp only [b1,b2,b3,Bool.not_true,Bool.not_false,Bool.false_eq_true,if_true,if_false,Bool.and_true,Bool.and_false,ne_eq,not_true_eq_false,not_false_eq_true,reduceCtorEq] <;> (try rfl)
 rcases Bool.eq_false_or_eq_true (outP x.Kind 1 6) with b4 | b4
 ·simp [b4]
 ·simp only [b4,Bool.false_eq_true,if_false,Bool.not_false,Bool.not_true]
  by_cases b5:x.Kind=1
  ·rcases y89 c x.Plan hb.nl hpl with ⟨q1,q2,q3⟩ | ⟨q1,q2,y,q3,q4,q5,q6⟩
   ·simp [b5,q1]
   ·have q7:plP c x=decide (y.Product≠x.Product):=by unfold plP; rw [q3]
    simp only [b5,q1,q3,q7,ne_eq,not_true_eq_false,decide_false,decide_true,Bool.and_false,Bool.false_and,Bool.true_and,Bool.not_true,Bool.false_eq_true,if_false,if_true,Option.bind_some]
    by_cases q8:y.Product=x.Product
    ·rcases Bool.eq_false_or_eq_true (ud l k x) with b7 | b7 <;> simp [q8,b7]
    ·simp [q8]
  ·by_cases b6:x.Plan=[]
   ·rcases Bool.eq_false_or_eq_true (ud l k x) with b7 | b7 <;> simp [b5,b6,b7]
   ·simp [b5,b6]
theorem x97:z4s c apps l=some (eF c apps l):=by
 unfold z4s eF
 rw [v42 c hb,v48 apps ha]
 simp only [Option.bind_some]
 by_cases h1:catF c=0
 ·rw [if_neg (by simpa using h1),if_neg (not_not_intro h1)]
  by_cases h2:apF apps=0
  ·rw [if_neg (by simpa using h2),if_neg (not_not_intro h2)]
   by_cases h3:1000 < l.length
   ·rw [if_pos (by simp; omega),if_pos h3]
   ·rw [if_neg (by simp; omega),if_neg h3,if_pos (by omega)]
    refine z2k rfl l 0 fun j x _ hx => ?_
    have hx:l[j]?=some x:=by simpa using hx
    unfold y29
    rw [v3x hb ha hl h1 h2 j x hx (by omega)]
    simp only [Option.bind_some]
    by_cases hq:ef1 c apps l j x=0 <;> simp [hq]
  ·rw [if_pos (by simpa using h2),if_pos h2]
 ·rw [if_pos (by simpa using h1),if_pos h1]
theorem v3q:z9i c apps l=some (eF c apps l):=by
 unfold z9i y4h eF
 rw [x99 c hb,v5t apps ha]
 simp only [Option.bind_some]
 by_cases h1:catF c=0
 ·have e:(if decide (catF c≠0)=true then some (catF c) else some (apF apps))=some (apF apps):=if_neg (by simpa using h1)
  rw [e,if_neg (not_not_intro h1)]
  simp only [Option.bind_some]
  by_cases h2:apF apps=0
  ·rw [if_neg (by simpa using h2),if_neg (not_not_intro h2)]
   by_cases h3:1000 < l.length
   ·rw [if_pos (by simp; omega),if_pos h3]
   ·rw [if_neg (by simp; omega),if_neg h3,if_pos (by omega)]
    exact z2k rfl l 0 fun j x _ hx=>v3w hb ha hl h1 h2 j x (by simpa using hx)
  ·rw [if_pos (by simpa using h2),if_pos h2]
 ·have e:(if decide (catF c≠0)=true then some (catF c) else some (apF apps))=some (catF c):=if_pos (by simpa using h1)
  rw [e,if_pos h1]
  simp only [Option.bind_some]
  rw [if_pos (by simpa using h1)]
end
structure EOk (c:yh) (apps:List yd) (x:zq):Prop where
 t:0≤x.At∧x.At≤345686399999
 a:hasA apps x.App=true
 p:hasP c x.Product=true
 k:1≤x.Kind∧x.Kind≤6
 l:x.Kind=1→hasL c x.Plan=true
theorem x9x {c:yh} {apps:List yd} {l:List zq} {k:Nat} {x:zq} (h:ef1 c apps l k x=0):EOk c apps x∧ud l k x=false:=by
 unfold ef1 at h
 rcases Bool.eq_false_or_eq_true (momP x.At) with b1 | b1
 ·rcases Bool.eq_false_or_eq_true (hasA apps x.App) with b2 | b2 <;> rcases Bool.eq_false_or_eq_true (hasP c x.Product) with b3 | b3 <;> simp [b1,b2,b3] at h
  rcases Bool.eq_false_or_eq_true (outP x.Kind 1 6) with b4 | b4
  ·simp [b4] at h
  ·simp only [b4,Bool.false_eq_true,if_false] at h
   have ht:0≤x.At∧x.At≤345686399999:=by unfold momP at b1; simp at b1; omega
   rcases Bool.eq_false_or_eq_true (ud l k x) with b7 | b7 <;> rcases Bool.eq_false_or_eq_true (plP c x) with b8 | b8 <;> rcases Bool.eq_false_or_eq_true (hasL c x.Plan) with b9 | b9 <;> by_cases b5:x.Kind=1 <;> by_cases b6:x.Plan=[] <;> simp only [b7,b8,b9] at h <;> simp [b5,b6] at h
   all_goals exact ⟨⟨ht,b2,b3,z7u b4,fun hk=>by first | exact b9 | exact absurd hk b5⟩,b7⟩
 ·simp [b1] at h
theorem y5w {c:yh} {apps:List yd} {l:List zq} (h:eF c apps l=0):(catF c=0∧apF apps=0∧l.length≤1000)∧(∀ x,x∈l→EOk c apps x)∧∀ k x,l[k]?=some x→ud l k x=false:=by
 unfold eF at h
 by_cases h1:catF c=0
 ·rw [if_neg (not_not_intro h1)] at h
  by_cases h2:apF apps=0
  ·rw [if_neg (not_not_intro h2)] at h
   by_cases h3:1000 < l.length
   ·rw [if_pos h3] at h; omega
   ·rw [if_neg h3] at h
    have hz:∀ k x,l[k]?=some x→ef1 c apps l k x=0:=fun k x hx=>by have:=x1x l 0 h k x hx; simpa using this
    refine ⟨⟨h1,h2,by omega⟩,fun x hx => ?_,fun k x hx=>(x9x (hz k x hx)).2⟩
    obtain ⟨j,hj⟩:=List.getElem?_of_mem hx
    exact (x9x (hz j x hj)).1
  ·rw [if_pos h2] at h; exact absurd h h2
 ·rw [if_pos h1] at h; exact absurd h h1
def SI (s:zz):Prop:=(0≤s.State∧s.State≤4)∧(s.State=1→s.First < 0)∧(s.State=2∨s.State=3→0≤s.First)
def folF (s:zz) (x:zq) (asked:Bool):zz×Bool:=
 if x.Kind=1 then
  if s.State=2∨s.State=3 then (if x.Plan=s.Plan∨asked=true then (s,false) else (zz.mk s.State x.Plan x.At s.First,true))
  else if s.State=1 then (s,false) else if asked=true then (zz.mk 1 x.Plan x.At (-1),true) else (zz.mk 2 x.Plan x.At x.At,true)
 else if x.Kind=2 then (if s.State=1 then (zz.mk 2 s.Plan x.At x.At,true) else (s,false))
 else if x.Kind=3 then (if s.State=1 then (zz.mk 4 s.Plan x.At s.First,true) else (s,false))
 else if x.Kind=4 then (if s.State=2 then (zz.mk 3 s.Plan x.At s.First,true) else (s,false))
 else if x.Kind=5 then (if s.State=3 then (zz.mk 2 s.Plan x.At s.First,true) else (s,false))
 else if s.State=1∨s.State=2∨s.State=3 then (zz.mk 4 s.Plan x.At s.First,true) else (s,false)
def askP (c:yh) (x:zq):Bool:=match at? c.Plans (ixL c x.Plan) with | some p=>p.Asked | none=>false
def fol (c:yh) (s:zz) (x:zq):zz×Bool:=folF s x (askP c x)
theorem v3a {c:yh} {apps:List yd} {s:zz} {x:zq} (hs:SI s) (hx:EOk c apps x):SI (fol c s x).1∧((fol c s x).2=false→(fol c s x).1=s):=by
 obtain ⟨h1,h2,h3⟩:=hs
 have ht:=hx.t
 unfold fol folF SI
 generalize askP c x=a
 repeat' split
 all_goals first
  | exact ⟨⟨h1,h2,h3⟩,fun _=>rfl⟩
  | exact ⟨⟨by simp only; omega,by simp only; omega,by simp only; omega⟩,fun h=>by cases h⟩
theorem v3b {c:yh} {apps:List yd} {s:zz} {x:zq} (hb:CB c) (hc:catF c=0) (hs:SI s) (hx:EOk c apps x):z8s c s x=some (fol c s x):=by
  obtain ⟨h1,h2,h3⟩:=hs
  have ht:=hx.t
  have hk:=hx.k
  obtain ⟨⟨_,hpl⟩,_⟩:=y55 hc
  have hst:s.State=0∨s.State=1∨s.State=2∨s.State=3∨s.State=4:=by omega
  unfold z8s fol
  by_cases k1:x.Kind=1
  · have hq:=hx.l k1
    rcases y89 c x.Plan hb.nl hpl with ⟨q1,_⟩ | ⟨_,q2,y,q3,q4,q5,q6⟩
    · rw [q1] at hq; cases hq
    · have ea:askP c x=y.Asked:=by unfold askP; rw [q3]
      rw [if_pos (by simpa using k1),q6,ea]
      unfold y4c z4q folF
      simp only [Option.bind_some,q5]
      rw [if_pos k1]
      rcases hst with e | e | e | e | e <;> simp only [e] <;> by_cases a1:x.Plan=s.Plan <;> rcases Bool.eq_false_or_eq_true y.Asked with a2 | a2 <;> simp [a1,a2]
  · have hk2:x.Kind=2∨x.Kind=3∨x.Kind=4∨x.Kind=5∨x.Kind=6:=by omega
    rw [if_neg (by simpa using k1)]
    unfold y4a z4q z3n z3o folF
    have hcase:∀ n:Int,s.State=n→((n=1→s.First < 0)∧(n=2∨n=3→0≤s.First)):=fun n hn=>by rw [← hn]; exact ⟨h2,h3⟩
    rcases hst with e | e | e | e | e <;> have hf:=hcase _ e <;> rcases hk2 with k | k | k | k | k <;> simp only [e,k] <;> first
      | (simp; done)
      | (have h9:¬ s.First < 0:=by have:=hf.2 (by simp); omega
         simp [h9]; done)
      | (have h9:s.First < 0:=hf.1 (by simp)
         simp [h9]; done)
def xf:zz:=zz.mk 0 [] 0 (-1)
theorem w42:SI xf:=⟨by simp [xf],by simp [xf],by simp [xf]⟩
noncomputable def bk (m:List (yt×zz)) (a p:Bs):zz:=(lkG m (yt.mk a p)).getD xf
theorem v5h (b:jx) (a p:Bs) (ha:a.length≤1000000∧p.length≤1000000):z8u b a p=some (bk b.subs_ a p):=by
 unfold z8u z4o bk
 rw [if_pos ⟨by omega,by omega⟩]
 cases lkG b.subs_ (yt.mk a p) with
 | none=>rfl
 | some v=>rfl
def upS (st:Bs→Bs→zz) (a p:Bs) (s:zz):Bs→Bs→zz:=fun a' p'=>if a'=a∧p'=p then s else st a' p'
theorem w0b (m:List (yt×zz)) (a p:Bs) (s:zz):bk (ptG m (yt.mk a p) s)=upS (bk m) a p s:=by
 funext a' p'
 unfold bk upS
 rw [y4n]
 by_cases h:a'=a∧p'=p
 ·obtain ⟨rfl,rfl⟩:=h
  rw [if_pos rfl,if_pos ⟨rfl,rfl⟩]; rfl
 ·have h2:¬ yt.mk a p=yt.mk a' p':=fun e=>by
   injection e with e1 e2
   exact h ⟨e1.symm,e2.symm⟩
  rw [if_neg h2,if_neg h]
def runS (c:yh):(Bs→Bs→zz)→List zq→(Bs→Bs→zz)
 | st,[]=>st
 | st,x::l=>if (fol c (st x.App x.Product) x).2=true then runS c (upS st x.App x.Product (fol c (st x.App x.Product) x).1) l else runS c st l
theorem w0z {st:Bs→Bs→zz} {a p:Bs} {s:zz} (h:∀ a p,SI (st a p)) (hs:SI s):∀ a' p',SI (upS st a p s a' p'):=fun a' p'=>by
 unfold upS
 split
 ·exact hs
 ·exact h a' p'
section
variable {c:yh} {apps:List yd} (hb:CB c) (hc:catF c=0)
include hb hc
end
section
variable {c:yh} {apps:List yd} (hb:CB c) (hc:catF c=0)
include hb hc
end
theorem w0a (b:jx) (a p:Bs) (ha:a.length≤1000000∧p.length≤1000000):z1u b a p=some (bk b.subs_ a p):=by
 unfold z1u z4o bk
 rw [if_pos ⟨by omega,by omega⟩]
 cases lkG b.subs_ (yt.mk a p) with
 | none=>rfl
 | some v=>rfl
def cutT (v:Int) (l:List zq):List zq:=l.takeWhile fun x=>decide (x.At≤v)
section
variable {κ τ:Type}
theorem x6j (l:List (κ×τ)) (k:κ) (v:τ):∀ p,p∈ptG l k v→p=(k,v)∨(p∈l∧p.1≠k)∨p∈l:=by
 induction l with
 | nil=>intro p hp; simp only [ptG,List.mem_singleton] at hp; exact .inl hp
 | cons q l ih =>
  intro p hp
  rw [ptG] at hp
  split at hp
  ·rcases List.mem_cons.1 hp with rfl | hp
   ·exact .inl rfl
   ·exact .inr (.inr (by simp [hp]))
  ·rcases List.mem_cons.1 hp with rfl | hp
   ·exact .inr (.inr (by simp))
   ·rcases ih p hp with h | h | h
    ·exact .inl h
    ·exact .inr (.inr (by simp [h.1]))
    ·exact .inr (.inr (by simp [h]))
theorem x6k {l:List (κ×τ)} (k:κ) (v:τ) (h:l.Pairwise fun p q=>p.1≠q.1):(ptG l k v).Pairwise fun p q=>p.1≠q.1:=by
 induction l with
 | nil=>simp [ptG]
 | cons q l ih =>
  obtain ⟨h1,h2⟩:=List.pairwise_cons.1 h
  rw [ptG]
  split
  ·rename_i hq
   exact List.pairwise_cons.2 ⟨fun p hp=>by rw [← hq]; exact h1 p hp,h2⟩
  ·rename_i hq
   refine List.pairwise_cons.2 ⟨fun p hp => ?_,ih h2⟩
   rcases x6j l k v p hp with rfl | h | h
   ·exact hq
   ·exact h1 p h.1
   ·exact h1 p h
theorem w65 {l:List (κ×τ)} (h:l.Pairwise fun p q=>p.1≠q.1) {p:κ×τ} (hp:p∈l):lkG l p.1=some p.2:=by
 obtain ⟨j,hj⟩:=List.getElem?_of_mem hp
 exact (z9x l j p.1 p.2 h hj).1
theorem x66:∀ {l:List (κ×τ)} {k:κ} {v:τ},lkG l k=some v→(k,v)∈l
 | [],k,v,h=>by simp [lkG] at h
 | q::l,k,v,h=>by
  rw [lkG] at h
  split at h
  ·rename_i hq; cases h; subst hq; simp
  ·exact List.mem_cons_of_mem _ (x66 h)
end
structure BI (c:yh) (l:List zq) (k:Nat) (m4:List (yt×zz)) (m5:List (yt×Int)):Prop where
 d:m4.Pairwise fun p q=>p.1≠q.1
 s:∀ a p,SI (bk m4 a p)
 w:∀ q,q∈m4→q.2.State=1→∃ (i:Nat) (x:zq),l[i]?=some x∧x.App=q.1.app_∧x.Product=q.1.product_∧x.Kind=1∧x.At=q.2.Since∧lkG m5 q.1=some (i:Int)
 n:∀ q,q∈m4→q.1.app_.length≤1000000∧q.1.product_.length≤1000000
 z:m4.length≤k
theorem BI.mono {c:yh} {l:List zq} {k k':Nat} {m4:List (yt×zz)} {m5:List (yt×Int)} (h:BI c l k m4 m5) (hk:k≤k'):BI c l k' m4 m5:=⟨h.d,h.s,h.w,h.n,Nat.le_trans h.z hk⟩
theorem v2z {c:yh} {s:zz} {x:zq} (h:(fol c s x).2=true):(fol c s x).1.Since=x.At∧((fol c s x).1.State=1→x.Kind=1):=by
 unfold fol folF at *
 generalize askP c x=a at *
 split at h <;> rename_i k1
 ·rw [if_pos k1]
  split at h
  ·split at h
   ·simp at h
   ·rename_i h1 h2
    rw [if_pos h1,if_neg h2]
    exact ⟨rfl,fun _=>k1⟩
  ·rename_i h1
   rw [if_neg h1]
   split at h
   ·simp at h
   ·rename_i h2
    rw [if_neg h2]
    split <;> exact ⟨rfl,fun _=>k1⟩
 ·rw [if_neg k1]
  repeat' split
  all_goals (first | exact ⟨rfl,fun h=>by simp at h⟩ | (simp_all))
section
variable {c:yh} {apps:List yd} (hb:CB c) (hc:catF c=0)
include hb hc
theorem x2n {v3:Int} (L:List zq):∀ (l:List zq) (k:Nat) (m4:List (yt×zz)) (m5:List (yt×Int)) (l6:List Int),(∀ j,l[j]?=L[k+j]?)→(∀ x,x∈l→EOk c apps x∧EB x)→BI c L k m4 m5→l6.length+l.length≤1000000 →
  ∃ m4' m5' l6',forL (fun (k:Nat) (x:zq) (s:(List (yt×zz))×(List (yt×Int))×(List Int))=>Qb c v3 k x s.1 s.2.1 s.2.2) (fun (s:(List (yt×zz))×(List (yt×Int))×(List Int))=>z3q s.1 s.2.1 s.2.2) k l (m4,m5,l6)=some (jx.mk m4' m5',l6')∧bk m4'=runS c (bk m4) (cutT v3 l)∧BI c L (k+l.length) m4' m5'
 | [],k,m4,m5,l6,_,_,hI,_=>⟨m4,m5,l6,by show z3q m4 m5 l6=_; unfold z3q z06; rfl,rfl,hI⟩
 | x::l,k,m4,m5,l6,hL,hx,hI,hl=>by
  obtain ⟨x1,x2⟩:=hx x (by simp)
  have hxk:L[k]?=some x:=by have:=hL 0; simpa using this.symm
  simp only [List.length_cons] at hl
  have hL':∀ j,l[j]?=L[k+1+j]?:=fun j=>by have:=hL (j+1); rw [List.getElem?_cons_succ] at this; rw [this]; congr 1; omega
  by_cases hv:v3 < x.At
  ·refine ⟨m4,m5,l6,?_,?_,hI.mono (by omega)⟩
   ·show (Qb c v3 k x m4 m5 l6).bind _=_
    unfold Qb z06
    rw [if_pos (by simpa using hv)]
    rfl
   ·have:cutT v3 (x::l)=[]:=by unfold cutT; rw [List.takeWhile_cons_of_neg (by simp; omega)]
    rw [this]; rfl
  ·have hcut:cutT v3 (x::l)=x::cutT v3 l:=by unfold cutT; rw [List.takeWhile_cons_of_pos (by simp; omega)]
   have e1:=v5h (jx.mk m4 m5) x.App x.Product ⟨x2.a,x2.p⟩
   have hs:=hI.s x.App x.Product
   have e2:=v3b hb hc hs x1
   obtain ⟨f1,f2⟩:=v3a hs x1
   have b1:=x2.a
   have b2:=x2.p
   have hstep:Qb c v3 k x m4 m5 l6=if (fol c (bk m4 x.App x.Product) x).2=true then some (.inl (ptG m4 (yt.mk x.App x.Product) (fol c (bk m4 x.App x.Product) x).1,(if x.Kind=1 then ptG m5 (yt.mk x.App x.Product) (k:Int) else m5),l6)) else some (.inl (m4,m5,l6++[(k:Int)])):=by
    unfold Qb z05
    rw [if_neg (by simp; omega),e1]
    simp only [Option.bind_some,e2]
    cases (fol c (bk m4 x.App x.Product) x).2
    ·simp; omega
    ·simp only [Bool.not_true,Bool.false_eq_true,if_false,if_true]
     rw [if_pos ⟨by omega,by omega⟩]
     by_cases k1:x.Kind=1
     ·rw [if_pos (by simpa using k1),if_pos ⟨by omega,by omega⟩,if_pos k1]
     ·rw [if_neg (by simpa using k1),if_neg k1]
   show ∃ m4' m5' l6',(Qb c v3 k x m4 m5 l6).bind _=_∧_∧_
   rw [hstep,hcut]
   cases hf:(fol c (bk m4 x.App x.Product) x).2
   ·simp only [Bool.false_eq_true,if_false,Option.bind_some,after]
    obtain ⟨m4',m5',l6',r1,r2,r3⟩:=x2n L l (k+1) m4 m5 (l6++[(k:Int)]) hL' (fun y hy=>hx y (by simp [hy])) (hI.mono (by omega)) (by simp; omega)
    refine ⟨m4',m5',l6',r1,?_,r3.mono (by simp; omega)⟩
    rw [r2]
    simp [runS,hf]
   ·simp only [if_true,Option.bind_some,after]
    obtain ⟨g1,g2⟩:=v2z hf
    have hI':BI c L (k+1) (ptG m4 (yt.mk x.App x.Product) (fol c (bk m4 x.App x.Product) x).1) (if x.Kind=1 then ptG m5 (yt.mk x.App x.Product) (k:Int) else m5):=by
     refine ⟨x6k _ _ hI.d,by rw [w0b]; exact w0z hI.s f1,fun q hq hq1 => ?_,fun q hq => ?_,by have h1:=w57 m4 (yt.mk x.App x.Product) (fol c (bk m4 x.App x.Product) x).1; have h2:=hI.z; omega⟩
     ·have hlk:=w65 (x6k (yt.mk x.App x.Product) (fol c (bk m4 x.App x.Product) x).1 hI.d) hq
      rw [y4n] at hlk
      by_cases hk:yt.mk x.App x.Product=q.1
      ·rw [if_pos hk] at hlk
       have hv2:(fol c (bk m4 x.App x.Product) x).1=q.2:=Option.some.inj hlk
       have hkind:=g2 (by rw [hv2]; exact hq1)
       refine ⟨k,x,hxk,by rw [← hk],by rw [← hk],hkind,by rw [← hv2,g1],?_⟩
       rw [if_pos hkind,y4n,if_pos hk]
      ·rw [if_neg hk] at hlk
       obtain ⟨i,y,y1,y2,y3,y4,y5,y6⟩:=hI.w q (x66 hlk) hq1
       refine ⟨i,y,y1,y2,y3,y4,y5,?_⟩
       split
       ·rw [y4n,if_neg hk]; exact y6
       ·exact y6
     ·rcases x6j m4 _ _ q hq with rfl | h | h
      ·exact ⟨b1,b2⟩
      ·exact hI.n q h.1
      ·exact hI.n q h
    obtain ⟨m4',m5',l6',r1,r2,r3⟩:=x2n L l (k+1) _ _ l6 hL' (fun y hy=>hx y (by simp [hy])) hI' (by omega)
    refine ⟨m4',m5',l6',r1,?_,r3.mono (by simp; omega)⟩
    rw [r2,w0b]
    simp [runS,hf]
theorem v5i {v3:Int} (l:List zq) (hx:∀ x,x∈l→EOk c apps x∧EB x) (hl:l.length≤100000):∃ m4 m5 l6,z1v c l v3=some (jx.mk m4 m5,l6)∧bk m4=runS c (fun _ _=>xf) (cutT v3 l)∧BI c l l.length m4 m5:=by
 unfold z1v
 rw [if_pos (by omega)]
 have e:bk ([]:List (yt×zz))=fun _ _=>xf:=by funext a p; rfl
 obtain ⟨m4,m5,l6,h1,h2,h3⟩:=x2n (v3:=v3) hb hc l l 0 [] [] [] (fun j=>by simp) hx ⟨by simp,fun a p=>by rw [e]; exact w42,by simp,by simp,by simp⟩ (by simp; omega)
 rw [e] at h2
 exact ⟨m4,m5,l6,h1,h2,h3.mono (by omega)⟩
end
section
variable {c:yh} {apps:List yd} (hb:CB c) (hc:catF c=0)
include hb hc
end
def moF (v:Int):Int:=if momP v=true then 0 else 1
theorem x65 (v:Int):z4p v=some (moF v):=by
 unfold z4p moF
 rw [x08]
 simp only [Option.bind_some]
 cases momP v <;> rfl
def acS (st:Bs→Bs→zz) (a:Bs) (l:List yq):List Bs:=l.flatMap fun x=>if (st a x.Key).State=2 then x.Scopes else []
theorem x3c (st:Bs→Bs→zz) (a:Bs) (x:yq) (l:List yq):acS st a (x::l)=(if (st a x.Key).State=2 then x.Scopes else [])++acS st a l:=by
 unfold acS; rw [List.flatMap_cons]
theorem x3b {st:Bs→Bs→zz} {a:Bs} {l:List yq} {z:Bs} (h:z∈acS st a l):∃ x,x∈l∧z∈x.Scopes:=by
 unfold acS at h
 obtain ⟨x,h1,h2⟩:=List.mem_flatMap.1 h
 split at h2
 ·exact ⟨x,h1,h2⟩
 ·simp at h2
theorem w0l (st:Bs→Bs→zz) (a:Bs):∀ (l:List yq),(∀ x,x∈l→x.Scopes.length≤50)→(acS st a l).length≤l.length * 50
 | [],_=>by simp [acS]
 | x::l,h=>by
  have ih:=w0l st a l fun y hy=>h y (by simp [hy])
  have:=h x (by simp)
  rw [x3c,List.length_append,List.length_cons]
  split
  ·omega
  ·simp; omega
theorem y8y {st:Bs→Bs→zz} {a:Bs} {r15:jx×List Int}:∀ (l:List yq) (k:Nat) (out:List Bs),(∀ x,x∈l→x.Scopes.length≤50∧z1u r15.1 a x.Key=some (st a x.Key))→out.length+l.length * 50≤1000000 →
  forL (fun (k:Nat) (x:yq) (s:(List Bs))=>z07 a r15 k x s) (fun (s:(List Bs))=>Qc s) k l out=Qc (out++acS st a l)
 | [],k,out,_,_=>by
  show Qc out=_
  simp [acS]
 | x::l,k,out,h,hl=>by
  simp only [List.length_cons] at hl
  obtain ⟨h1,h2⟩:=h x (by simp)
  have hstep:z07 a r15 k x out=if (st a x.Key).State=2 then some (.inl (out++x.Scopes)) else some (.inl out):=by
   unfold z07 z3r
   rw [h2]
   simp only [Option.bind_some]
   rw [if_pos (show out.length+x.Scopes.length≤1000000000 by omega)]
   by_cases hs:(st a x.Key).State=2
   ·rw [if_pos (by simpa using hs),if_pos hs]
   ·rw [if_neg (by simpa using hs),if_neg hs]
  show (z07 a r15 k x out).bind _=_
  rw [hstep,x3c]
  by_cases hs:(st a x.Key).State=2
  ·rw [if_pos hs,if_pos hs]
   simp only [Option.bind_some,after]
   rw [y8y l (k+1) _ (fun y hy=>h y (by simp [hy])) (by simp; omega),List.append_assoc]
  ·rw [if_neg hs,if_neg hs]
   simp only [Option.bind_some,after,List.nil_append]
   exact y8y l (k+1) _ (fun y hy=>h y (by simp [hy])) (by omega)
theorem y84 {c:yh} (hc:catF c=0):c.Products.length≤100∧∀ x,x∈c.Products→keyP x.Key=true∧x.Scopes.length≤50∧x.Scopes.all scP=true:=by
 unfold catF at hc
 have h1:pdF c.Products=0:=by
  by_cases h:pdF c.Products=0
  ·exact h
  ·rw [if_pos h] at hc; exact absurd hc h
 unfold pdF at h1
 split at h1
 ·simp at h1
 ·rename_i hn
  have h2:=(y0w x9f c.Products [] h1).1.2
  refine ⟨by omega,fun x hx => ?_⟩
  have h3:=h2 x hx
  unfold gP at h3
  split at h3
  ·simp at h3
  ·rename_i hk
   simp only [Bool.false_eq_true,if_false] at h3
   exact ⟨by simpa using hk,w5c h3⟩
def scR (l:List Bs):List Bs×Int:=if 50 < l.length then ([],2) else (lsP l,0)
theorem w5a {l:List Bs} (hl:l.all scP=true) (hs:Sh l):Qc l=some (scR l)∧x1l l=some (scR l):=by
 unfold scR
 by_cases h:50 < l.length
 ·have h':decide (50 < (l.length:Int))=true:=decide_eq_true (by omega)
  unfold Qc x1l
  rw [h',if_pos h]
  exact ⟨rfl,rfl⟩
 ·have h':¬ decide (50 < (l.length:Int))=true:=by simp; omega
  have h0:scF l=0:=by unfold scF; rw [if_neg h,if_pos hl]
  rw [if_neg h]
  refine ⟨?_,?_⟩
  ·unfold Qc
   rw [if_neg h',w7c (a:=l) hs,if_neg (by simp [h0])]
   rfl
  ·unfold x1l
   rw [if_neg h',w7d l hs]
   rfl
section
variable {c:yh} {apps:List yd} {l:List zq} (hb:CB c) (ha:AB apps) (hl:∀ x,x∈l→EB x)
include hb ha hl
theorem atM (v:Int) (h0:eF c apps l=0):∃ m4 m5 l6,z1v c l v=some (jx.mk m4 m5,l6)∧bk m4=runS c (fun _ _=>xf) (cutT v l)∧BI c l l.length m4 m5:=by
 obtain ⟨⟨e1,e2,e3⟩,e4,e5⟩:=y5w h0
 exact v5i (apps:=apps) hb e1 l (fun x hx=>⟨e4 x hx,hl x hx⟩) (by omega)
theorem w3d (a p:Bs) (v:Int) (hap:a.length≤1000000∧p.length≤1000000):z8v c apps l a p v=some (if or2 (eF c apps l) (or2 (if (hasA apps a && hasP c p)=true then 0 else 8) (moF v))≠0 then (zz.mk 0 [] 0 0,or2 (eF c apps l) (or2 (if (hasA apps a && hasP c p)=true then 0 else 8) (moF v))) else (runS c (fun _ _=>xf) (cutT v l) a p,0)):=by
 unfold z8v
 rw [x97 hb ha hl]
 simp only [Option.bind_some]
 by_cases h0:eF c apps l=0
 ·obtain ⟨⟨e1,e2,e3⟩,e4,e5⟩:=y5w h0
  have hsf:z8p c apps a p v=some (or2 (if (hasA apps a && hasP c p)=true then 0 else 8) (moF v)):=by
   unfold z8p
   obtain ⟨r6,r61,r62,_⟩:=x2w apps a (by have:=ha.1; omega) (x2x e2)
   have hrp:xm yq.Key c.Products:=(y55 e1).1.1
   obtain ⟨r8,r81,r82⟩:=y83 c p hb.np hrp
   rw [r61,r81]
   simp only [Option.bind_some,r62,r82,x65]
   unfold or2
   cases hasA apps a <;> cases hasP c p <;> simp
  obtain ⟨m4,m5,l6,q1,q2,q3⟩:=atM hb ha hl v h0
  rw [if_neg (by simpa using h0),hsf,q1]
  simp only [Option.bind_some,w0a _ a p hap,q2]
  have e:∀ z,or2 (eF c apps l) z=z:=fun z=>by unfold or2; rw [if_neg (by simpa using h0)]
  rw [e]
  by_cases h1:or2 (if (hasA apps a && hasP c p)=true then 0 else 8) (moF v)=0
  ·rw [if_neg (by simpa using h1),if_neg (by simpa using h1)]
  ·rw [if_pos (by simpa using h1),if_pos h1]
 ·have e:∀ z,or2 (eF c apps l) z=eF c apps l:=fun z=>by unfold or2; rw [if_pos h0]
  rw [if_pos (by simpa using h0),e,if_pos h0]
theorem v50 (v:Int) (a:Bs) (h0:eF c apps l=0) (st:Bs→Bs→zz):(acS st a c.Products).all scP=true∧Sh (acS st a c.Products):=by
 obtain ⟨⟨e1,e2,e3⟩,e4,e5⟩:=y5w h0
 obtain ⟨p1,p2⟩:=y84 e1
 have h1:=w0l st a c.Products fun x hx=>(p2 x hx).2.1
 refine ⟨List.all_eq_true.2 fun z hz => ?_,by omega,fun z hz => ?_⟩
 ·obtain ⟨x,x1,x2⟩:=x3b hz
  exact List.all_eq_true.1 (p2 x x1).2.2 z x2
 ·obtain ⟨x,x1,x2⟩:=x3b hz
  exact (hb.kp x x1).2.2 z x2
theorem w49 (a:Bs) (v:Int) (hal:a.length≤1000000):z8w c apps l a v=some (if or2 (eF c apps l) (or2 (if hasA apps a=true then 0 else 8) (moF v))≠0 then ([],or2 (eF c apps l) (or2 (if hasA apps a=true then 0 else 8) (moF v))) else scR (acS (runS c (fun _ _=>xf) (cutT v l)) a c.Products)):=by
 unfold z8w
 rw [x97 hb ha hl]
 simp only [Option.bind_some,x65]
 by_cases h0:eF c apps l=0
 ·obtain ⟨⟨e1,e2,e3⟩,e4,e5⟩:=y5w h0
  have e:∀ z,or2 (eF c apps l) z=z:=fun z=>by unfold or2; rw [if_neg (by simpa using h0)]
  obtain ⟨r9,r91,r92,_⟩:=x2w apps a (by have:=ha.1; omega) (x2x e2)
  rw [if_neg (by simpa using h0),e,r91]
  simp only [Option.bind_some,r92]
  by_cases h8:hasA apps a=true
  ·have e':∀ z,or2 (if hasA apps a=true then 0 else 8) z=z:=fun z=>by unfold or2; rw [if_pos h8]; simp
   rw [if_neg (by simp [h8]),e']
   by_cases h1:moF v=0
   ·obtain ⟨m4,m5,l6,q1,q2,q3⟩:=atM hb ha hl v h0
    obtain ⟨p1,p2⟩:=y84 e1
    rw [if_neg (by simpa using h1),if_neg (by simpa using h1),q1]
    simp only [Option.bind_some]
    rw [if_pos (by omega),y8y (st:=runS c (fun _ _=>xf) (cutT v l)) c.Products 0 [] (fun x hx=>⟨(p2 x hx).2.1,by rw [w0a _ a x.Key ⟨hal,(hb.kp x hx).1⟩,q2]⟩) (by simp; omega),List.nil_append]
    obtain ⟨g1,g2⟩:=v50 hb ha hl v a h0 (runS c (fun _ _=>xf) (cutT v l))
    exact (w5a g1 g2).1
   ·rw [if_pos (by simpa using h1),if_pos h1]
  ·have e':∀ z,or2 (if hasA apps a=true then 0 else 8) z=8:=fun z=>by unfold or2; rw [if_neg h8]; simp
   rw [if_pos (by simpa using h8),e']
   rfl
 ·have e:∀ z,or2 (eF c apps l) z=eF c apps l:=fun z=>by unfold or2; rw [if_pos h0]
  rw [if_pos (by simpa using h0),e,if_pos h0]
end
theorem x9z {a b c:Bs} (ha:scP a=true) (h1:cvB a b=true) (h2:cvB b c=true):cvB a c=true:=by
 by_cases sa:Lib.hasSuffix a [42]=true
 ·by_cases sb:Lib.hasSuffix b [42]=true
  ·obtain ⟨g,e1,t1⟩:=z7f sa
   obtain ⟨h,e2,t2⟩:=z7f sb
   unfold cvB at h1 h2 ⊢
   rw [if_pos sa,t1] at h1 ⊢
   rw [if_pos sb,t2] at h2
   unfold Lib.hasPrefix at h1 h2 ⊢
   rw [List.isPrefixOf_iff_prefix] at h1 h2 ⊢
   rw [e2] at h1
   by_cases hl:g.length≤h.length
   ·exact (List.prefix_of_prefix_length_le h1 (List.prefix_append h [42]) hl).trans h2
   ·have hq:g=h++[42]:=h1.eq_of_length (by have:=h1.length_le; simp at this ⊢; omega)
    rw [e1,hq,List.append_assoc] at ha
    have hs:=y8z h
    rw [show h++([42]++[42])=h++[42,42] from rfl,hs] at ha; cases ha
  ·have hq:b=c:=by unfold cvB at h2; rw [if_neg sb] at h2; exact of_decide_eq_true h2
   rw [← hq]; exact h1
 ·have hq:a=b:=by unfold cvB at h1; rw [if_neg sa] at h1; exact of_decide_eq_true h1
  rw [hq]; exact h2
theorem x9o {α:Type} {p q:α→Bool}:∀ (l:List α),(∀ x,x∈l→p x=true→q x=true)→(l.filter p).length≤(l.filter q).length
 | [],_=>by simp
 | x::l,h=>by
  have ih:=x9o l fun y hy=>h y (List.mem_cons_of_mem _ hy)
  have hx:=h x (by simp)
  rw [List.filter_cons,List.filter_cons]
  cases hp:p x <;> cases hq:q x
  ·simpa [hp,hq] using ih
  ·simp; omega
  ·rw [hx hp] at hq; cases hq
  ·simpa using ih
theorem x9n {α:Type} {p q:α→Bool}:∀ (l:List α),(∀ x,x∈l→p x=true→q x=true)→∀ s,s∈l→p s=false→q s=true→(l.filter p).length < (l.filter q).length
 | [],_,s,hs,_,_=>by cases hs
 | x::l,h,s,hs,hp,hq=>by
  have h':∀ y,y∈l→p y=true→q y=true:=fun y hy=>h y (List.mem_cons_of_mem _ hy)
  have hx:=h x (by simp)
  rw [List.filter_cons,List.filter_cons]
  rcases List.mem_cons.1 hs with e | hs
  ·subst e
   have:=x9o l h'
   rw [hp,hq]
   simp; omega
  ·have ih:=x9n l h' s hs hp hq
   cases hp':p x <;> cases hq':q x
   ·simpa using ih
   ·simp; omega
   ·rw [hx hp'] at hq'; cases hq'
   ·simpa using ih
theorem x7o {l:List Bs} (hl:∀ x,x∈l→scP x=true):∀ (n:Nat) (s:Bs),s∈l→(l.filter fun h=>cvB h s).length≤n→∃ h,h∈lsP l∧cvB h s=true
 | n,s,hs,hn=>by
  by_cases hq:∃ h,h∈l∧h≠s∧cvB h s=true
  ·obtain ⟨h,h1,h2,h3⟩:=hq
   have hlt:(l.filter fun x=>cvB x h).length < (l.filter fun x=>cvB x s).length:=x9n l (fun x hx hc=>x9z (hl x hx) hc h3) s hs (by
    cases hc:cvB s h
    ·rfl
    ·exact absurd (v4c (hl h h1) (hl s hs) h3 hc) h2) (x2d s)
   match n,hn with
   | 0,hn=>omega
   | n+1,hn =>
    obtain ⟨t,t1,t2⟩:=x7o hl n h h1 (by omega)
    exact ⟨t,t1,x9z (hl t ((z14 l t).1 t1).1) t2 h3⟩
  ·refine ⟨s,(z14 l s).2 ⟨hs,fun h h1 h2 => ?_⟩,x2d s⟩
   cases hc:cvB h s
   ·rfl
   ·exact absurd ⟨h,h1,h2,hc⟩ hq
theorem w7b {l m:List Bs} (hl:∀ x,x∈l→scP x=true) (h:∀ x,x∈m→x∈l):cvA (lsP l) m=true:=by
 unfold cvA
 refine List.all_eq_true.2 fun x hx => ?_
 obtain ⟨t,t1,t2⟩:=x7o hl _ x (h x hx) (Nat.le_refl _)
 unfold cvL
 exact List.any_eq_true.2 ⟨t,t1,t2⟩
theorem w64 (l:List Bs):lsP (lsP l)=lsP l:=
 x6h (x0l _) (x0l _) fun s=>by
  rw [z14 (lsP l)]
  exact ⟨fun h=>h.1,fun h=>⟨h,fun x hx hne=>((z14 l s).1 h).2 x ((z14 l x).1 hx).1 hne⟩⟩
theorem x9q {α:Type} {e:Nat→α→Int}:∀ (l:List α) (k:Nat),(∀ j x,l[j]?=some x→e (k+j) x=0)→feI e k l=0
 | [],k,_=>rfl
 | x::l,k,h=>by
  have h0:e k x=0:=h 0 x (by simp)
  show (if e k x≠0 then e k x else feI e (k+1) l)=0
  rw [if_neg (by simp [h0])]
  exact x9q l (k+1) fun j y hy=>by
   have:=h (j+1) y (by simpa using hy)
   rw [show k+1+j=k+(j+1) by omega]; exact this
theorem x2f {α:Type} {key:α→Bs} {g:α→Bool→Int}:∀ (l:List α) (last:Bs),(∀ x,x∈l→g x false=0)→(l.Pairwise fun x y=>leB (key y) (key x)=false)→(∀ x,x∈l→leB (key x) last=false)→chR key g l last=0
 | [],_,_,_,_=>rfl
 | x::l,last,h1,h2,h3=>by
  have hx:=h3 x (by simp)
  have hg:=h1 x (by simp)
  show (if g x (leB (key x) last)≠0 then g x (leB (key x) last) else chR key g l (key x))=0
  rw [hx,if_neg (by simp [hg])]
  rw [List.pairwise_cons] at h2
  exact x2f l (key x) (fun y hy=>h1 y (List.mem_cons_of_mem _ hy)) h2.2 h2.1
theorem w5v {k:Int} {s:zy} (h:SB k s) (hk:k≤1000000):Ok (z9l s) fun r=>(r.1.length≤4∧∀ x,x∈r.1→x.length≤5∧scP x=true)∧SB (k+5) r.2:=by
 unfold z9l
 refine qf (z7r h (by omega) 0 4 (by omega)) fun r2 h2=>ok_g (by omega) ?_
 obtain ⟨m,hm⟩:∃ m:Nat,r2.1=(m:Int):=⟨r2.1.toNat,by omega⟩
 rw [hm,Int.toNat_natCast]
 refine z7v (fun j (q:List Int×Int×List Bs)=>j≤4∧SB (k+1+(j:Int)) (zy.mk q.1 q.2.1)∧q.2.2.length≤j∧∀ x,x∈q.2.2→x.length≤5∧scP x=true) m 0 _ ⟨by omega,h2.2.mono (by omega),by simp,by simp⟩ ?_ ?_
 ·rintro j ⟨a,b,l⟩ _ hj ⟨h0,h1,h3,h4⟩
  simp only at h1 h3 h4 ⊢
  unfold y5i
  refine qf (Yz h1 (by omega) _ ⟨by simp,by simp⟩) fun r hr=>ok_g (by omega) (qa ⟨by omega,hr.2.mono (by omega),by simp; omega,fun x hx => ?_⟩)
  rcases List.mem_append.1 hx with hx | hx
  ·exact h4 x hx
  ·obtain rfl:x=r.1:=(by simpa using hx)
   have:=hr.1
   simp only [List.mem_cons,List.not_mem_nil,or_false] at this
   rcases this with e | e | e | e | e | e | e | e | e <;> rw [e] <;> exact ⟨by decide,by decide +kernel⟩
 ·rintro ⟨a,b,l⟩ ⟨h0,h1,h3,h4⟩
  simp only at h1 h3 h4 ⊢
  unfold y5j
  exact qa ⟨⟨by simp only; omega,h4⟩,h1.mono (by omega)⟩
structure TG (v:Int) (l:List qw):Prop where
 fr:∀ x,x∈l→(1≤x.From∧x.From < v)∧0≤x.Cents∧x.Cents≤1000000
 up:l.Pairwise fun x y=>x.From < y.From
 hd:∀ x,l[0]?=some x→x.From=1
 em:l=[]→v=1
theorem w2s {v d:Int} {l:List qw} (h:TG v l) (hv:1≤v) (hd:0 < d) {c:Int} (hc:0≤c∧c≤1000000):TG (v+d) (l++[qw.mk v c]) where
 fr:=fun x hx=>by
  rcases List.mem_append.1 hx with hx | hx
  ·have:=h.fr x hx; omega
  ·obtain rfl:x=qw.mk v c:=(by simpa using hx)
   simp only; omega
 up:=by
  rw [List.pairwise_append]
  refine ⟨h.up,by simp,fun x hx y hy => ?_⟩
  obtain rfl:y=qw.mk v c:=(by simpa using hy)
  exact (h.fr x hx).1.2
 hd:=fun x hx=>by
  cases l with
  | nil =>
   have:v=1:=h.em rfl
   have e:x=qw.mk v c:=(by simpa using hx.symm)
   rw [e]; exact this
  | cons y l=>exact h.hd x (by simpa using hx)
 em:=fun he=>by simp at he
theorem w2r {v:Int} {l:List qw} (h:TG v l) (hv:v≤1000000000000) (hn:l.length≤20):tsF l=0:=by
 unfold tsF
 rw [if_neg (by omega)]
 have h1:feI (t1 l) 0 l=0:=x9q l 0 fun j x hx=>by
  have hm:=List.mem_of_getElem? hx
  have hf:=h.fr x hm
  have e1:outP x.From 1 1000000000000=false:=by unfold outP; simp; omega
  have e2:outP x.Cents 0 1000000=false:=by unfold outP; simp; omega
  have e3:xh l (0+j) x=false:=by
   unfold xh
   rw [Nat.zero_add]
   by_cases h0:0 < j
   ·obtain ⟨y,hy⟩:∃ y,l[j - 1]?=some y:=⟨_,List.getElem?_eq_getElem (by have:=jj hx; omega)⟩
    rw [hy]
    have hj:=jj hx
    have hp:=List.pairwise_iff_getElem.1 h.up (j - 1) j (by omega) hj (by omega)
    have ey:l[j - 1]=y:=by have:=List.getElem?_eq_getElem (l:=l) (i:=j - 1) (by omega); rw [this] at hy; exact Option.some.inj hy
    have ex:l[j]=x:=by have:=List.getElem?_eq_getElem (l:=l) (i:=j) hj; rw [this] at hx; exact Option.some.inj hx
    rw [ey,ex] at hp
    simp [h0]; omega
   ·simp [h0]
  unfold t1
  rw [e1,e2,e3]; rfl
 rw [if_neg (by simp [h1])]
 have h2:t0 l=false:=by
  unfold t0
  cases hl:l[0]? with
  | none=>rfl
  | some y=>have:=h.hd y hl; simp [this]
 rw [if_neg (by simp [h2])]
structure PR (p:yj):Prop where
 key:keyP p.Key=true
 short:p.Key.length≤100
 prod:p.Product=[115,104,111,112]∨p.Product=[109,97,112,115]
 base:0≤p.Base∧p.Base≤1000000
 free:0≤p.Free∧p.Free≤1000000
 ts:tsF p.Tiers=0
 tl:p.Tiers.length≤3
 lim:-1≤p.Limit∧p.Limit≤1000000
 tri:0≤p.Trial∧p.Trial≤100
def Zl:List Bs:=[[98,105,103],[102,114,101,101],[109,105,100],[115,109,97,108,108]]
theorem w6u:∀ j:Nat,j < 4→∀ x,Zl[j]?=some x→(∀ y,y∈Zl.take j→leB x y=false)∧keyP x=true∧x.length≤100:=by
 intro j hj x hx
 match j,hj with
 | 0,_=>obtain rfl:x=[98,105,103]:=(by simpa [Zl] using hx.symm); exact ⟨by simp,by decide +kernel⟩
 | 1,_=>obtain rfl:x=[102,114,101,101]:=(by simpa [Zl] using hx.symm); exact ⟨by decide +kernel,by decide +kernel⟩
 | 2,_=>obtain rfl:x=[109,105,100]:=(by simpa [Zl] using hx.symm); exact ⟨by decide +kernel,by decide +kernel⟩
 | 3,_=>obtain rfl:x=[115,109,97,108,108]:=(by simpa [Zl] using hx.symm); exact ⟨by decide +kernel,by decide +kernel⟩
theorem w58 (sc:List Bs) (h:sc.length≤4) (hs:∀ x,x∈sc→scP x=true):pdF [yq.mk [109,97,112,115] sc,yq.mk [115,104,111,112] [[111,114,100,101,114,115]]]=0:=by
 have e0:scF sc=0:=by unfold scF; rw [if_neg (by omega),if_pos (List.all_eq_true.2 hs)]
 unfold pdF
 rw [if_neg (by simp)]
 refine x2f _ _ (fun x hx => ?_) (List.pairwise_cons.2 ⟨fun y hy=>by
  obtain rfl:y=yq.mk [115,104,111,112] [[111,114,100,101,114,115]]:=(by simpa using hy)
  show leB [115,104,111,112] [109,97,112,115]=false
  decide +kernel,List.pairwise_singleton _ _⟩) (fun x hx => ?_)
 ·simp only [List.mem_cons,List.not_mem_nil,or_false] at hx
  rcases hx with rfl | rfl
  ·unfold gP
   rw [if_neg (by show ¬ keyP [109,97,112,115]=false; decide +kernel),if_neg (by decide)]
   exact e0
  ·unfold gP
   decide +kernel
 ·simp only [List.mem_cons,List.not_mem_nil,or_false] at hx
  rcases hx with rfl | rfl
  ·show leB [109,97,112,115] []=false
   decide +kernel
  ·show leB [115,104,111,112] []=false
   decide +kernel
theorem w59 {sc:List Bs} {ps:List yj} {p:yj} (h:PR p):gL (yh.mk [yq.mk [109,97,112,115] sc,yq.mk [115,104,111,112] [[111,114,100,101,114,115]]] ps) p false=0:=by
 have e1:hasP (yh.mk [yq.mk [109,97,112,115] sc,yq.mk [115,104,111,112] [[111,114,100,101,114,115]]] ps) p.Product=true:=by
  unfold hasP
  rcases h.prod with e | e <;> rw [e] <;> rfl
 have b:=h.base; have f:=h.free; have l:=h.lim; have t:=h.tri
 have o1:outP p.Base 0 1000000000000=false:=by unfold outP; simp; omega
 have o2:outP p.Free 0 1000000000000=false:=by unfold outP; simp; omega
 have o3:outP p.Limit (-1) 1000000000000=false:=by unfold outP; simp; omega
 have o4:outP p.Trial 0 132=false:=by unfold outP; simp; omega
 unfold gL plF
 rw [h.key,e1,o1,o2,h.ts,o3,o4]
 rfl
theorem w5x {k:Int} {s:zy} (h:SB k s) (hk:k≤100000):Ok (z9n s) fun r=>(catF r.1=0∧CS r.1∧r.1.Products.length=2∧(∀ x,x∈r.1.Products→x.Scopes.length≤4∧∀ y,y∈x.Scopes→y.length≤6))∧SB (k+100) r.2:=by
 unfold z9n
 refine qf (w5v h (by omega)) fun r2 h2=>ok_g (by decide) ?_
 refine z3v (fun (j:Nat) (q:(List yj)×(List Int)×Int)=>SB (k+5+20 * (j:Int)) ⟨q.2.1,q.2.2⟩∧q.1.length≤j∧(∀ x,x∈q.1→PR x∧x.Key∈Zl.take j)∧q.1.Pairwise fun x y=>leB y.Key x.Key=false) _ 0 _ ⟨by simpa using h2.2,by simp,by simp,by simp⟩ ?_ ?_
 ·rintro j x ⟨l,c,d⟩ _ hx ⟨q1,q2,q3,q4⟩
  simp only at q1 q2 q3 q4
  rw [Nat.sub_zero] at hx
  have hj:j < 4:=by have:=jj hx; simp at this; omega
  have hnm:=w6u j hj x hx
  have htk:∀ z,z∈Zl.take j→z∈Zl.take (j+1):=fun z hz=>by
   rw [List.take_add_one]
   exact List.mem_append.2 (.inl hz)
  have hxk:x∈Zl.take (j+1):=by
   rw [List.take_add_one]
   refine List.mem_append.2 (.inr ?_)
   rw [show Zl[j]?=some x from hx]
   simp
  unfold y5n z2i
  refine qf (z2l q1 (by omega) _ (by omega)) fun r13 h13=>vo (fun _ => ?_) (fun _ => ?_)
  ·exact qa ⟨h13.mono (by omega),by simp only; omega,fun y hy=>⟨(q3 y hy).1,htk _ (q3 y hy).2⟩,q4⟩
  ·refine qf (Yz h13 (by omega) _ ⟨by simp,by simp⟩) fun r16 h16=>qf (xw h16.2 (by omega) _ ⟨by simp,by simp⟩) fun r18 h18=>qf (xw h18.2 (by omega) _ ⟨by simp,by simp⟩) fun r20 h20=>qf (xw h20.2 (by omega) _ ⟨by simp,by simp⟩) fun r22 h22=>qf (xw h22.2 (by omega) _ ⟨by simp,by simp⟩) fun r24 h24=>qf (z2l h24.2 (by omega) _ (by omega)) fun r26 h26=>qf (xw h26 (by omega) _ ⟨by simp,by simp⟩) fun r28 h28 => ?_
   have h3:0≤r28.1∧r28.1≤3:=by
    have h1:=h28.1
    simp only [List.mem_cons,List.not_mem_nil,or_false] at h1
    omega
   have b16:r16.1=[115,104,111,112]∨r16.1=[109,97,112,115]:=by
    have h1:=h16.1
    simp only [List.mem_cons,List.not_mem_nil,or_false] at h1
    rcases h1 with h1 | h1 | h1
    ·exact .inl h1
    ·exact .inl h1
    ·exact .inr h1
   have b18:0≤r18.1∧r18.1≤1000000:=by
    have h1:=h18.1
    simp only [List.mem_cons,List.not_mem_nil,or_false] at h1
    omega
   have b20:0≤r20.1∧r20.1≤1000000:=by
    have h1:=h20.1
    simp only [List.mem_cons,List.not_mem_nil,or_false] at h1
    omega
   have b22:-1≤r22.1∧r22.1≤1000000:=by
    have h1:=h22.1
    simp only [List.mem_cons,List.not_mem_nil,or_false] at h1
    omega
   have b24:0≤r24.1∧r24.1≤100:=by
    have h1:=h24.1
    simp only [List.mem_cons,List.not_mem_nil,or_false] at h1
    omega
   refine ok_g (by omega) ?_
   refine z7v (fun (i:Nat) (q:Int×(List qw)×(List Int)×Int)=>SB (k+5+20 * (j:Int)+8+2 * (i:Int)) ⟨q.2.2.1,q.2.2.2⟩∧q.2.1.length≤i∧TG q.1 q.2.1∧1≤q.1∧q.1≤1+100 * (i:Int)) _ 0 _ ⟨h28.2.mono (by simp; omega),by simp,⟨by simp,by simp,by simp,fun _=>rfl⟩,by simp,by simp⟩ ?_ ?_
   ·rintro i ⟨v,t,c,d⟩ _ hi ⟨p1,p2,p3,p4,p5⟩
    simp only at p1 p2 p3 p4 p5
    unfold y5m
    refine qf (xw p1 (by omega) _ ⟨by simp,by simp⟩) fun r39 h39=>ok_g (by simp only; omega) (qf (xw h39.2 (by omega) _ ⟨by simp,by simp⟩) fun r42 h42 => ?_)
    have b39:0≤r39.1∧r39.1≤1000000:=by
     have h1:=h39.1
     simp only [List.mem_cons,List.not_mem_nil,or_false] at h1
     omega
    have b42:0 < r42.1∧r42.1≤100:=by
     have h1:=h42.1
     simp only [List.mem_cons,List.not_mem_nil,or_false] at h1
     omega
    have ew:wr (v+r42.1)=v+r42.1:=ww (by omega)
    refine qa ⟨h42.2.mono (by omega),by simp; omega,?_,?_,?_⟩
    ·simp only [ew]; exact w2s p3 p4 b42.1 b39
    ·simp only [ew]; omega
    ·simp only [ew]; omega
   ·rintro ⟨v,t,c,d⟩ ⟨p1,p2,p3,p4,p5⟩
    simp only at p1 p2 p3 p4 p5
    unfold y5o z2i
    refine ok_g (by simp only; omega) (qa ⟨p1.mono (by omega),by simp; omega,fun y hy => ?_,?_⟩)
    ·rcases List.mem_append.1 hy with hy | hy
     ·exact ⟨(q3 y hy).1,htk _ (q3 y hy).2⟩
     ·simp only [List.mem_singleton] at hy
      subst hy
      exact ⟨⟨hnm.2.1,hnm.2.2,b16,b18,b20,w2r p3 (by omega) (by simp only at p2 ⊢; omega),by simp only; omega,b22,b24⟩,hxk⟩
    ·simp only
     rw [List.pairwise_append]
     refine ⟨q4,by simp,fun y hy z hz => ?_⟩
     simp only [List.mem_singleton] at hz
     subst hz
     exact hnm.1 _ (q3 y hy).2
 ·rintro ⟨l,c,d⟩ ⟨q1,q2,q3,q4⟩
  simp only at q1 q2 q3 q4
  have q2':l.length≤4:=by simpa using q2
  unfold y5p
  refine qa ⟨⟨?_,⟨by simp,fun x hx => ?_,by simp only; omega,fun x hx => ?_⟩,rfl,fun x hx => ?_⟩,q1.mono (by simp; omega)⟩
  ·unfold catF
   have hz:=w58 r2.1 h2.1.1 fun x hx=>(h2.1.2 x hx).2
   rw [if_neg (by simp only [hz]; simp),if_neg (by simp only; omega)]
   refine x2f _ _ (fun x hx=>w59 (q3 x hx).1) q4 (fun x hx => ?_)
   exact z9y (q3 x hx).1.key
  ·simp only [List.mem_cons,List.not_mem_nil,or_false] at hx
   rcases hx with hx | hx <;> subst hx
   ·exact ⟨by simp,by have:=h2.1.1; simp only; omega,fun y hy=>by have:=(h2.1.2 y hy).1; omega⟩
   ·exact ⟨by simp,by simp,fun y hy=>by simp only [List.mem_singleton] at hy; subst hy; decide⟩
  ·have:=(q3 x hx).1
   exact ⟨this.short,by have:=this.tl; omega⟩
  ·simp only [List.mem_cons,List.not_mem_nil,or_false] at hx
   rcases hx with hx | hx <;> subst hx
   ·exact ⟨by have:=h2.1.1; simp only; omega,fun y hy=>by have:=(h2.1.2 y hy).1; omega⟩
   ·exact ⟨by simp,fun y hy=>by simp only [List.mem_singleton] at hy; subst hy; decide⟩
def y58 (o:Bs) (n:Nat):List yd:=[(yd.mk [97,112,112,49] [97,110,110]),(yd.mk [97,112,112,50] o),(yd.mk [97,112,112,51] [98,111,98])].take n
theorem z6e (o:Bs) (ho:o=[97,110,110]∨o=[98,111,98]) (n:Nat) (hn:n=1∨n=2∨n=3):apF (y58 o n)=0∧hasA (y58 o n) [97,112,112,49]=true∧(y58 o n).length≤3∧∀ x,x∈y58 o n→x.Key.length≤100∧x.Owner.length≤100:=by
 rcases ho with rfl | rfl <;> rcases hn with rfl | rfl | rfl <;> decide +kernel
theorem w5y {k:Int} {s:zy} (h:SB k s) (hk:k≤100000):Ok (z12 s) fun r=>(apF r.1=0∧hasA r.1 [97,112,112,49]=true∧r.1.length≤3∧∀ x,x∈r.1→x.Key.length≤100∧x.Owner.length≤100)∧SB (k+2) r.2:=by
 unfold z12
 refine qf (Yz h (by omega) _ ⟨by simp,by simp⟩) fun r2 h2=>qf (xw h2.2 (by omega) _ ⟨by simp,by simp⟩) fun r4 h4 => ?_
 have b4:=h4.1
 have b2:=h2.1
 simp only [List.mem_cons,List.not_mem_nil,or_false] at b4 b2
 have hb:SB (k+2) r4.2:=h4.2.mono (by omega)
 generalize r4.1=n at b4
 generalize r2.1=o at b2
 rcases b2 with rfl | rfl <;> rcases b4 with rfl | rfl | rfl | rfl <;> first | exact qa ⟨z6e [97,110,110] (.inl rfl) 1 (.inl rfl),hb⟩ | exact qa ⟨z6e [97,110,110] (.inl rfl) 2 (.inr (.inl rfl)),hb⟩ | exact qa ⟨z6e [97,110,110] (.inl rfl) 3 (.inr (.inr rfl)),hb⟩ | exact qa ⟨z6e [98,111,98] (.inr rfl) 1 (.inl rfl),hb⟩ | exact qa ⟨z6e [98,111,98] (.inr rfl) 2 (.inr (.inl rfl)),hb⟩ | exact qa ⟨z6e [98,111,98] (.inr rfl) 3 (.inr (.inr rfl)),hb⟩
theorem w5w {k:Int} {s:zy} (h:SB k s) (hk:k≤5000) {c:yh} (hc:CS c) (h0:catF c=0) {apps:List yd} (ha:apps.length≤10∧∀ x,x∈apps→x.Key.length≤100∧x.Owner.length≤100) (h1:apF apps=0) {n:Int} (hn:0≤n∧n≤19) :
  Ok (z9m s c apps n) fun r=>((∀ x,x∈r.1→EB x)∧eF c apps r.1=0)∧SB (k+2000) r.2:=by
 have hab:AB apps:=⟨by have:=ha.1; omega,ha.2⟩
 unfold z9m
 refine ok_g (by omega) ?_
 refine z7v (fun (j:Nat) (q:(List Int)×Int)=>SB (k+400 * (j:Int)) ⟨q.1,q.2⟩) _ 0 _ (by simpa using h) ?_ ?_
 ·rintro j ⟨a,b⟩ _ hj q1
  simp only at q1 ⊢
  unfold y5k
  refine qf (v3p q1 (by omega) hc ha hn) fun r11 h11 => ?_
  rw [v3q hc.cb hab h11.1.2]
  simp only [Option.bind_some]
  refine vo (fun hz=>qa ⟨⟨h11.1.2,by simpa using hz⟩,h11.2.mono (by omega)⟩) (fun _=>qa (h11.2.mono (by omega)))
 ·rintro ⟨a,b⟩ q1
  simp only at q1
  unfold y5l
  refine qa ⟨⟨by simp,?_⟩,q1.mono (by simp)⟩
  unfold eF
  rw [if_neg (by simp [h0]),if_neg (by simp [h1]),if_neg (by simp)]
  rfl
structure ClB (c:qg):Prop where
 id:c.Id.length≤1000000
 subject:c.Subject.length≤1000000
 issuer:c.Issuer.length≤1000000
 parent:c.Parent.length≤1000000
 aud:Sh c.Audience
 sc:Sh c.Scopes
section
end
section
variable (l:List qg) (hl:l.length≤100) (hc:∀ c,c∈l→ClB c)
include hl hc
end

section
variable {σ ρ:Type}
theorem x8s {body:σ→Option (σ ⊕ ρ)} {s s':σ} (h:body s=some (.inl s')):iter body s=iter body s':=by
 rw [x05,h]; rfl
theorem y4z {body:σ→Option (σ ⊕ ρ)} {s:σ} {r:ρ} (h:body s=some (.inr r)):iter body s=some r:=by
 rw [x05,h]; rfl
end
theorem w6s (l:Bs):(jd l).length=l.length:=by simp [jd]
def trR (c:UInt8) (s:Bs):Bs:=(s.reverse.dropWhile (· == c)).reverse
def trL (c:UInt8) (s:Bs):Bs:=s.dropWhile (· == c)
theorem w2i (c b:UInt8) (l:Bs):trR c (l++[b])=if b=c then trR c l else l++[b]:=by
 unfold trR
 rw [List.reverse_append,List.reverse_singleton,List.singleton_append,List.dropWhile_cons]
 by_cases h:b=c
 ·simp [h]
 ·simp [h]
theorem w2j (c:UInt8) (s:Bs):(trR c s).length≤s.length:=by
 unfold trR
 rw [List.length_reverse]
 have:=(List.dropWhile_sublist (l:=s.reverse) (· == c)).length_le
 simpa using this
theorem w2h (c:UInt8) (s:Bs):s.length≤1000000000→Wn s (c.toNat:Int)=some (trR c s):=by
 refine y2n (P:=fun s=>s.length≤1000000000→Wn s (c.toNat:Int)=some (trR c s)) (fun _ => ?_) (fun l b ih h => ?_) s
 ·unfold Wn
  exact y4z rfl
 ·have hl:(l++[b]).length=l.length+1:=by simp
  have e1:wr (((l++[b]).length:Int) - 1)=(l.length:Int):=by rw [hl,ww (by omega)]; omega
  have e2:at? (l++[b]) (l.length:Int)=some b:=by
   unfold at?
   rw [if_pos (by omega),Int.toNat_natCast]; simp
  have e3:sub? (l++[b]) 0 (l.length:Int)=some l:=by
   rw [x5k _ _ (by omega)]; simp
  rw [w2i]
  by_cases hb:b=c
  ·rw [if_pos hb]
   have:=ih (by omega)
   unfold Wn at this ⊢
   refine (x8s (s':=l) ?_).trans this
   unfold z69 z0z
   rw [if_pos (by simp),e1,e2]
   simp only [Option.bind_some]
   rw [if_pos (by simp [hb]),e3]; rfl
  ·rw [if_neg hb]
   unfold Wn
   refine y4z ?_
   unfold z69 z0z z7a
   rw [if_pos (by simp),e1,e2]
   simp only [Option.bind_some]
   have hn:¬ (b.toNat:Int)=(c.toNat:Int):=fun h=>hb (UInt8.toNat_inj.1 (by omega))
   rw [if_neg (by simpa using hn)]; rfl
theorem x48 (c:UInt8):∀ s:Bs,s.length≤1000000000→z1k s (c.toNat:Int)=some (trL c s)
 | [],_=>by
  unfold z1k
  exact y4z rfl
 | b::l,h=>by
  simp only [List.length_cons] at h
  have e3:sub? (b::l) 1 ((b::l).length:Int)=some l:=by
   unfold sub?
   rw [if_pos (by simp; omega)]
   simp
  unfold trL
  rw [List.dropWhile_cons]
  by_cases hb:b=c
  ·rw [if_pos (by simp [hb])]
   have:=x48 c l (by omega)
   unfold z1k at this ⊢
   refine (x8s (s':=l) ?_).trans this
   unfold z7b z00
   rw [if_pos (by simp),List.getElem?_cons_zero]
   simp only [Option.bind_some]
   rw [if_pos (by simp [hb]),e3]; rfl
  ·rw [if_neg (by simp [hb])]
   unfold z1k
   refine y4z ?_
   unfold z7b z00 z7c
   rw [if_pos (by simp),List.getElem?_cons_zero]
   simp only [Option.bind_some]
   have hn:¬ (b.toNat:Int)=(c.toNat:Int):=fun h=>hb (UInt8.toNat_inj.1 (by omega))
   rw [if_neg (by simpa using hn)]; rfl
theorem x47 (c:UInt8) (hc:c.toNat < 128) (s:Bs) (h:s.length≤1000000000):z1l s [c]=some (trL c (trR c s)):=by
 unfold z1l z3g
 by_cases h0:s=[]
 ·subst h0; rfl
 ·have:=w2j c s
  rw [if_neg (by simp [h0]),if_pos (by simp),List.getElem?_cons_zero]
  simp only [Option.bind_some]
  rw [if_pos (by simp; omega),w2h c s h]
  simp only [Option.bind_some]
  rw [x48 c _ (by omega)]; rfl
theorem w4v:x0j=some true:=by
 have h1:z1y [47,97,47,46,46,47,98]=some 0:=by decide +kernel
 have h2:z81 [47,97,47,46,46,47,98]=some ([47,97,47,46,46,47,98],true):=by
  unfold z81
  exact Zo.2 ⟨9,by decide +kernel⟩
 have h3:kk [97,47,46,46,47,98] [47]=some [[97],[46,46],[98]]:=by
  unfold kk
  rw [if_pos (by decide),z7g]
  decide +kernel
 have h4:sub? ([47,97,47,46,46,47,98]:Bs) 1 7=some [97,47,46,46,47,98]:=by decide +kernel
 have h5:forL (fun (k:Nat) (x:Bs) (s:(List Bs))=>y3l [[97],[46,46],[98]] k x s) (fun (s:(List Bs))=>y3m s) 0 [[97],[46,46],[98]] []=some ([47,98],0):=by decide +kernel
 have h6:z4v [47,97,47,46,46,47,98]=some ([47,98],0):=by
  unfold z4v
  rw [h1]
  simp only [Option.bind_some,ne_eq,not_true_eq_false,decide_false,Bool.false_eq_true,if_false,h2,Bool.not_true]
  show (sub? ([47,97,47,46,46,47,98]:Bs) 1 7).bind _=_
  rw [h4]
  simp only [Option.bind_some]
  rw [h3]
  simp only [Option.bind_some]
  rw [if_pos (by decide)]
  exact h5
 unfold x0j
 rw [h6]; rfl
end Go.Proofs.YtbndlmnjeofkdacGreatDoor
