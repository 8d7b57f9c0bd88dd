/- Plain: applications and events of a catalog: their faults: the program and the reference agree. -/
import Derived.Test.YticadaaoggpenaaGreatDoorEvZd
namespace Go.Proofs.YticadaaoggpenaaGreatDoor
set_option linter.unusedVariables false
set_option linter.unusedSimpArgs false
set_option linter.unusedSectionVars false
set_option maxRecDepth 20000
def gA (a:z0t) (late:Bool):Int:=if (keyP a.Key && keyP a.Owner)=false then 5 else if late=true then 7 else 0
def apF (l:List z0t):Int:=if 500 < l.length then 2 else chR z0t.Key gA l []
def AB (l:List z0t):Prop:=l.length≤1000∧∀ x,x∈l→x.Key.length≤100∧x.Owner.length≤100
theorem w57 (x:z0t):gA x true≠0:=by unfold gA; split <;> simp
theorem w3q (x:z0t):leB x.Key []=false∨∀ a b,gA x a=gA x b:=by
 cases hk:keyP x.Key
 ·exact .inr fun a b=>by simp [gA,hk]
 ·exact .inl (x5s hk)
theorem x3d {l:List z0t} (h:apF l=0):y8l z0t.Key l:=by
 unfold apF at h
 split at h
 ·omega
 ·exact (y7z w57 l [] h).1.1
theorem x8s (l : List z0t) (hb : AB l) : z9z l = some (apF l) := by
  have hn := hb.1
  unfold z9z apF
  by_cases h1 : 500 < l.length
  · rw [if_pos (by simp; omega), if_pos h1]
  · rw [if_neg (by simp; omega), if_neg h1, if_pos (by omega)]
    rw [x25 (key := z0t.Key) (g := gA) w3q l (r := some 0) rfl l 0 [] (.inl ⟨rfl, rfl⟩) (fun j => by simp) fun j x hx => ?_]
    · split
      · rfl
      · next h => have : chR z0t.Key gA l [] = 0 := by simpa using h
                  rw [this]
    · obtain ⟨k1, k2⟩ := hb.2 x (List.mem_of_getElem? hx)
      have hJ : ∀ v, z54 l j x v = if v = true then some (.inr 5) else if y4f z0t.Key l j x = true then some (.inr 7) else some (.inl ()) := by
        intro v
        unfold z54 z7c
        cases v
        · simp only [Bool.false_eq_true, if_false]
          by_cases h0 : 0 < j
          · obtain ⟨y, hy⟩ : ∃ y, l[j - 1]? = some y := ⟨_, List.getElem?_eq_getElem (by have := z9e hx; omega)⟩
            have e1 : at? l ((j : Int) - 1) = some y := by rw [y8i h0]; exact hy
            have e2 : decide (0 < (j : Int)) = true := by simpa using h0
            have e3 : y4f z0t.Key l j x = leB x.Key y.Key := by simp [y4f, h0, hy]
            simp only [e2, if_true, e1, Option.bind_some, e3]
            rfl
          · have e2 : decide (0 < (j : Int)) = false := by simpa using h0
            have e3 : y4f z0t.Key l j x = false := by simp [y4f, h0]
            rw [e2, e3]; rfl
        · simp
      unfold y00
      simp only [y7x _ (show x.Key.length ≤ 1000000000 by omega), y7x _ (show x.Owner.length ≤ 1000000000 by omega), Option.bind_some, hJ]
      unfold gA
      cases keyP x.Key <;> cases keyP x.Owner <;> cases y4f z0t.Key l j x <;> simp
theorem x4q (l : List z0t) (hb : AB l) : z8t l = some (apF l) := by
  have hn := hb.1
  unfold z8t apF
  by_cases h1 : 500 < l.length
  · rw [if_pos (by simp; omega), if_pos h1]
  · rw [if_neg (by simp; omega), if_neg h1, if_pos (by omega)]
    rw [x23 (key := z0t.Key) (g := gA) (fin := fun s => z95 s) (r := some 0) (fun s => rfl) l 0 [] fun j x s hx => ?_]
    · split
      · rfl
      · next h => have : chR z0t.Key gA l [] = 0 := by simpa using h
                  rw [this]
    · obtain ⟨k1, k2⟩ := hb.2 x hx
      unfold z94 z6g
      simp only [x4a _ (show x.Key.length ≤ 1000000000 by omega), x4a _ (show x.Owner.length ≤ 1000000000 by omega), Option.bind_some]
      have e : (Op.bytesLess x.Key s || x.Key == s) = leB x.Key s := rfl
      rw [e]
      unfold gA
      cases keyP x.Key <;> cases keyP x.Owner <;> cases leB x.Key s <;> simp
def hasA (l:List z0t) (key:Bs):Bool:=l.any fun x=>decide (x.Key=key)
theorem x3c (l:List z0t) (key:Bs) (hl:l.length≤100000) (hr:y8l z0t.Key l):Ok (z97 l key) fun r=>r.2=hasA l key∧(r.2=true→r.1=fdx (fun x:z0t=>decide (x.Key=key)) 0 l):=by
 unfold z97
 have h:=x5u z0t.Key l key (p:=fun (a0:z0t) (a1:Bs)=>z9s a0 a1) (by omega) (fun x _=>rfl) hr
 exact z1f (o:=z2j l key (fun (a0:z0t) (a1:Bs)=>z9s a0 a1)) h fun r hr=>z15 hr
theorem y69 (l:List z0t) (key:Bs) (hl:l.length≤100000):z8m l key=some (fdx (fun x:z0t=>decide (x.Key=key)) 0 l):=by
 unfold z8m
 have h:z33 l (fun (a0:z0t)=>z8c a0 key)=some (fdx (fun x:z0t=>decide (x.Key=key)) 0 l):=
  x0e l (p:=fun (a0:z0t)=>z8c a0 key) (fun x=>decide (x.Key=key)) (by omega) fun x _=>rfl
 rw [h]; rfl
def plP (c:z0g) (x:z0e):Bool:=match at? c.Plans (ixL c x.Plan) with | some p=>decide (p.Product≠x.Product) | none=>false
def ef1 (c:z0g) (apps:List z0t) (l:List z0e) (k:Nat) (x:z0e):Int:=
 if momP x.At=false then 1 else if (hasA apps x.App && hasP c x.Product)=false then 8 else if outP x.Kind 1 6=true then 4 else if (decide (x.Kind≠1) && decide (x.Plan≠[]))=true then 3 else
 if (decide (x.Kind=1) && !hasL c x.Plan)=true then 8 else if (decide (x.Kind=1) && plP c x)=true then 16 else if y5c l k x=true then 7 else 0
def eF (c:z0g) (apps:List z0t) (l:List z0e):Int:=
 if catF c≠0 then catF c else if apF apps≠0 then apF apps else if 1000 < l.length then 2 else feI (ef1 c apps l) 0 l
section
variable {c:z0g} {apps:List z0t} {l:List z0e} (hb:CB c) (ha:AB apps) (hl:∀ x,x∈l→EB x)
include hb ha hl
theorem w7q (h1:catF c=0) (h2:apF apps=0) (k:Nat) (x:z0e) (hx:l[k]?=some x) (hk:l.length≤1000000):z9a c apps l (k:Int)=some (ef1 c apps l k x):=by
 obtain ⟨⟨hp,hpl⟩,_⟩:=y5i h1
 have hlt:=z9e hx
 have hJ:z5p l (k:Int) x=some (if y5c l k x=true then 7 else 0):=by
  unfold z5p z6x
  by_cases h0:0 < k
  ·obtain ⟨y,hy⟩:∃ y,l[k - 1]?=some y:=⟨_,List.getElem?_eq_getElem (by omega)⟩
   have e1:at? l (wr ((k:Int) - 1))=some y:=by rw [y0x (by omega),y8i h0]; exact hy
   have e2:decide (0 < (k:Int))=true:=by simpa using h0
   have e3:y5c l k x=decide (0≤orE y x):=by simp [y5c,h0,hy]
   simp only [e2,if_true,e1,Option.bind_some,e3,w3z]
   by_cases h5:0≤orE y x <;> simp [h5]
  ·have e2:decide (0 < (k:Int))=false:=by simpa using h0
   have e3:y5c l k x=false:=by simp [y5c,h0]
   rw [e2,e3]; rfl
 obtain ⟨ra,a1,a2,_⟩:=x3c apps x.App (by have:=ha.1; omega) (x3d h2)
 obtain ⟨rp,p1,p2⟩:=y6c c x.Product hb.np hp
 unfold z9a
 rw [x0p,hx]
 simp only [Option.bind_some,x0c,a1,a2,p1,p2,x6n,hJ]
 unfold ef1
 rcases Bool.eq_false_or_eq_true (momP x.At) with b1 | b1 <;> rcases Bool.eq_false_or_eq_true (hasA apps x.App) with b2 | b2 <;> rcases Bool.eq_false_or_eq_true (hasP c x.Product) with b3 | b3 <;> simp only [b1,b2,b3,Bool.not_true,Bool.not_false,Bool.false_eq_true,if_true,if_false,Bool.and_true,Bool.and_false,reduceCtorEq] <;> (try rfl)
 rcases Bool.eq_false_or_eq_true (outP x.Kind 1 6) with b4 | b4
 ·simp [b4]
 ·simp only [b4,Bool.false_eq_true,if_false]
  by_cases b5:x.Kind=1
  ·rcases y6d c x.Plan hb.nl hpl with ⟨q1,q2,q3⟩ | ⟨q1,q2,y,q3,q4,q5,q6⟩
   ·simp [b5,q1,q3]
   ·have q7:plP c x=decide (y.Product≠x.Product):=by unfold plP; rw [q3]
    simp only [b5,q1,q6,q7,ne_eq,not_true_eq_false,decide_false,decide_true,Bool.and_false,Bool.false_and,Bool.true_and,Bool.not_true,Bool.false_eq_true,if_false,if_true,Option.bind_some]
    by_cases q8:y.Product=x.Product <;> simp [q8]
  ·by_cases b6:x.Plan=[] <;> simp [b5,b6]
theorem w7p (h1:catF c=0) (h2:apF apps=0) (k:Nat) (x:z0e) (hx:l[k]?=some x):z6u c apps l k x=if ef1 c apps l k x≠0 then some (.inr (ef1 c apps l k x)) else some (.inl ()):=by
 obtain ⟨⟨hp,hpl⟩,_⟩:=y5i h1
 have hJ:∀ v,z4n l k x v=if v=true then some (.inr 16) else if y5c l k x=true then some (.inr 7) else some (.inl ()):=by
  intro v
  unfold z4n z5j
  cases v
  ·simp only [Bool.false_eq_true,if_false]
   by_cases h0:0 < k
   ·obtain ⟨y,hy⟩:∃ y,l[k - 1]?=some y:=⟨_,List.getElem?_eq_getElem (by have:=z9e hx; omega)⟩
    have e1:at? l ((k:Int) - 1)=some y:=by rw [y8i h0]; exact hy
    have e2:decide (0 < (k:Int))=true:=by simpa using h0
    have e3:y5c l k x=decide (0≤orE y x):=by simp [y5c,h0,hy]
    simp only [e2,if_true,e1,Option.bind_some,e3,y9b y x (hl y (List.mem_of_getElem? hy)).t (hl x (List.mem_of_getElem? hx)).t]
   ·have e2:decide (0 < (k:Int))=false:=by simpa using h0
    have e3:y5c l k x=false:=by simp [y5c,h0]
    rw [e2,e3]; rfl
  ·simp
 have e1:z35 c x.Plan=some (ixL c x.Plan):=y9z c x.Plan hb.nl
 have e2:decide (fdx (fun y:z0t=>decide (y.Key=x.App)) 0 apps < 0) = !hasA apps x.App:=y5v _ _
 have e3:decide (fdx (fun y:z0m=>decide (y.Key=x.Product)) 0 c.Products < 0) = !hasP c x.Product:=y5v _ _
 have e4:decide (ixL c x.Plan < 0) = !hasL c x.Plan:=y5v (fun y:z0o=>decide (y.Key=x.Plan)) c.Plans
 unfold z6u z5k
 simp only [e1,x34,y69 apps x.App (by have:=ha.1; omega),y9w c x.Product hb.np,x4e,Option.bind_some,e2,e3,e4,hJ]
 unfold ef1
 rcases Bool.eq_false_or_eq_true (momP x.At) with b1 | b1 <;> rcases Bool.eq_false_or_eq_true (hasA apps x.App) with b2 | b2 <;> rcases Bool.eq_false_or_eq_true (hasP c x.Product) with b3 | b3 <;> simp only [b1,b2,b3,Bool.not_true,Bool.not_false,Bool.false_eq_true,if_true,if_false,Bool.and_true,Bool.and_false,ne_eq,not_true_eq_false,not_false_eq_true,reduceCtorEq] <;> (try rfl)
 rcases Bool.eq_false_or_eq_true (outP x.Kind 1 6) with b4 | b4
 ·simp [b4]
 ·simp only [b4,Bool.false_eq_true,if_false,Bool.not_false,Bool.not_true]
  by_cases b5:x.Kind=1
  ·rcases y6d c x.Plan hb.nl hpl with ⟨q1,q2,q3⟩ | ⟨q1,q2,y,q3,q4,q5,q6⟩
   ·simp [b5,q1]
   ·have q7:plP c x=decide (y.Product≠x.Product):=by unfold plP; rw [q3]
    simp only [b5,q1,q3,q7,ne_eq,not_true_eq_false,decide_false,decide_true,Bool.and_false,Bool.false_and,Bool.true_and,Bool.not_true,Bool.false_eq_true,if_false,if_true,Option.bind_some]
    by_cases q8:y.Product=x.Product
    ·rcases Bool.eq_false_or_eq_true (y5c l k x) with b7 | b7 <;> simp [q8,b7]
    ·simp [q8]
  ·by_cases b6:x.Plan=[]
   ·rcases Bool.eq_false_or_eq_true (y5c l k x) with b7 | b7 <;> simp [b5,b6,b7]
   ·simp [b5,b6]
theorem y6m:z5r c apps l=some (eF c apps l):=by
 unfold z5r eF
 rw [x4l c hb,x8s apps ha]
 simp only [Option.bind_some]
 by_cases h1:catF c=0
 ·rw [if_neg (by simpa using h1),if_neg (not_not_intro h1)]
  by_cases h2:apF apps=0
  ·rw [if_neg (by simpa using h2),if_neg (not_not_intro h2)]
   by_cases h3:1000 < l.length
   ·rw [if_pos (by simp; omega),if_pos h3]
   ·rw [if_neg (by simp; omega),if_neg h3,if_pos (by omega)]
    refine x5v rfl l 0 fun j x _ hx => ?_
    have hx:l[j]?=some x:=by simpa using hx
    unfold z9w
    rw [w7q hb ha hl h1 h2 j x hx (by omega)]
    simp only [Option.bind_some]
    by_cases hq:ef1 c apps l j x=0 <;> simp [hq]
  ·rw [if_pos (by simpa using h2),if_pos h2]
 ·rw [if_pos (by simpa using h1),if_pos h1]
theorem x0y:z66 c apps l=some (eF c apps l):=by
 unfold z66 y2v eF
 rw [x0l c hb,x4q apps ha]
 simp only [Option.bind_some]
 by_cases h1:catF c=0
 ·have e:(if decide (catF c≠0)=true then some (catF c) else some (apF apps))=some (apF apps):=if_neg (by simpa using h1)
  rw [e,if_neg (not_not_intro h1)]
  simp only [Option.bind_some]
  by_cases h2:apF apps=0
  ·rw [if_neg (by simpa using h2),if_neg (not_not_intro h2)]
   by_cases h3:1000 < l.length
   ·rw [if_pos (by simp; omega),if_pos h3]
   ·rw [if_neg (by simp; omega),if_neg h3,if_pos (by omega)]
    exact x5v rfl l 0 fun j x _ hx=>w7p hb ha hl h1 h2 j x (by simpa using hx)
  ·rw [if_pos (by simpa using h2),if_pos h2]
 ·have e:(if decide (catF c≠0)=true then some (catF c) else some (apF apps))=some (catF c):=if_pos (by simpa using h1)
  rw [e,if_pos h1]
  simp only [Option.bind_some]
  rw [if_pos (by simpa using h1)]
end
structure EOk (c:z0g) (apps:List z0t) (x:z0e):Prop where
 t:0≤x.At∧x.At≤345686399999
 a:hasA apps x.App=true
 p:hasP c x.Product=true
 k:1≤x.Kind∧x.Kind≤6
 l:x.Kind=1→hasL c x.Plan=true
theorem x68 {c:z0g} {apps:List z0t} {l:List z0e} {k:Nat} {x:z0e} (h:ef1 c apps l k x=0):EOk c apps x∧y5c l k x=false:=by
 unfold ef1 at h
 rcases Bool.eq_false_or_eq_true (momP x.At) with b1 | b1
 ·rcases Bool.eq_false_or_eq_true (hasA apps x.App) with b2 | b2 <;> rcases Bool.eq_false_or_eq_true (hasP c x.Product) with b3 | b3 <;> simp [b1,b2,b3] at h
  rcases Bool.eq_false_or_eq_true (outP x.Kind 1 6) with b4 | b4
  ·simp [b4] at h
  ·simp only [b4,Bool.false_eq_true,if_false] at h
   have ht:0≤x.At∧x.At≤345686399999:=by unfold momP at b1; simp at b1; omega
   rcases Bool.eq_false_or_eq_true (y5c l k x) with b7 | b7 <;> rcases Bool.eq_false_or_eq_true (plP c x) with b8 | b8 <;> rcases Bool.eq_false_or_eq_true (hasL c x.Plan) with b9 | b9 <;> by_cases b5:x.Kind=1 <;> by_cases b6:x.Plan=[] <;> simp only [b7,b8,b9] at h <;> simp [b5,b6] at h
   all_goals exact ⟨⟨ht,b2,b3,y38 b4,fun hk=>by first | exact b9 | exact absurd hk b5⟩,b7⟩
 ·simp [b1] at h
theorem y46 {c:z0g} {apps:List z0t} {l:List z0e} (h:eF c apps l=0):(catF c=0∧apF apps=0∧l.length≤1000)∧(∀ x,x∈l→EOk c apps x)∧∀ k x,l[k]?=some x→y5c l k x=false:=by
 unfold eF at h
 by_cases h1:catF c=0
 ·rw [if_neg (not_not_intro h1)] at h
  by_cases h2:apF apps=0
  ·rw [if_neg (not_not_intro h2)] at h
   by_cases h3:1000 < l.length
   ·rw [if_pos h3] at h; omega
   ·rw [if_neg h3] at h
    have hz:∀ k x,l[k]?=some x→ef1 c apps l k x=0:=fun k x hx=>by have:=x2x l 0 h k x hx; simpa using this
    refine ⟨⟨h1,h2,by omega⟩,fun x hx => ?_,fun k x hx=>(x68 (hz k x hx)).2⟩
    obtain ⟨j,hj⟩:=List.getElem?_of_mem hx
    exact (x68 (hz j x hj)).1
  ·rw [if_pos h2] at h; exact absurd h h2
 ·rw [if_pos h1] at h; exact absurd h h1
end Go.Proofs.YticadaaoggpenaaGreatDoor
