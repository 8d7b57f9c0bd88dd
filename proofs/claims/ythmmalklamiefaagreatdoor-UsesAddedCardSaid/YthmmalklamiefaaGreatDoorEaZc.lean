/- Plain: applications and events of a catalog: their faults: the program and the reference agree. -/
import Derived.Test.YthmmalklamiefaaGreatDoorEvZc
namespace Go.Proofs.YthmmalklamiefaaGreatDoor
set_option linter.unusedVariables false
set_option linter.unusedSimpArgs false
set_option linter.unusedSectionVars false
set_option maxRecDepth 20000
def gA (a:z0s) (late:Bool):Int:=if (keyP a.Key && keyP a.Owner)=false then 5 else if late=true then 7 else 0
def apF (l:List z0s):Int:=if 500 < l.length then 2 else chR z0s.Key gA l []
def AB (l:List z0s):Prop:=l.length≤1000∧∀ x,x∈l→x.Key.length≤100∧x.Owner.length≤100
theorem w7a (x:z0s):gA x true≠0:=by unfold gA; split <;> simp
theorem w4s (x:z0s):leB x.Key []=false∨∀ a b,gA x a=gA x b:=by
 cases hk:keyP x.Key
 ·exact .inr fun a b=>by simp [gA,hk]
 ·exact .inl (x7k hk)
theorem x5f {l:List z0s} (h:apF l=0):x0r z0s.Key l:=by
 unfold apF at h
 split at h
 ·omega
 ·exact (x1j w7a l [] h).1.1
theorem x3l (l : List z0s) (hb : AB l) : z9v l = some (apF l) := by
  have hn := hb.1
  unfold z9v apF
  by_cases h1 : 500 < l.length
  · rw [if_pos (by simp; omega), if_pos h1]
  · rw [if_neg (by simp; omega), if_neg h1, if_pos (by omega)]
    rw [x5a (key := z0s.Key) (g := gA) w4s l (r := some 0) rfl l 0 [] (.inl ⟨rfl, rfl⟩) (fun j => by simp) fun j x hx => ?_]
    · split
      · rfl
      · next h => have : chR z0s.Key gA l [] = 0 := by simpa using h
                  rw [this]
    · obtain ⟨k1, k2⟩ := hb.2 x (List.mem_of_getElem? hx)
      have hJ : ∀ v, z7d l j x v = if v = true then some (.inr 5) else if y6f z0s.Key l j x = true then some (.inr 7) else some (.inl ()) := by
        intro v
        unfold z7d z8u
        cases v
        · simp only [Bool.false_eq_true, if_false]
          by_cases h0 : 0 < j
          · obtain ⟨y, hy⟩ : ∃ y, l[j - 1]? = some y := ⟨_, List.getElem?_eq_getElem (by have := z9l hx; omega)⟩
            have e1 : at? l ((j : Int) - 1) = some y := by rw [y8i h0]; exact hy
            have e2 : decide (0 < (j : Int)) = true := by simpa using h0
            have e3 : y6f z0s.Key l j x = leB x.Key y.Key := by simp [y6f, h0, hy]
            simp only [e2, if_true, e1, Option.bind_some, e3]
            rfl
          · have e2 : decide (0 < (j : Int)) = false := by simpa using h0
            have e3 : y6f z0s.Key l j x = false := by simp [y6f, h0]
            rw [e2, e3]; rfl
        · simp
      unfold y2c
      simp only [y93 _ (show x.Key.length ≤ 1000000000 by omega), y93 _ (show x.Owner.length ≤ 1000000000 by omega), Option.bind_some, hJ]
      unfold gA
      cases keyP x.Key <;> cases keyP x.Owner <;> cases y6f z0s.Key l j x <;> simp
theorem x00 (l : List z0s) (hb : AB l) : z99 l = some (apF l) := by
  have hn := hb.1
  unfold z99 apF
  by_cases h1 : 500 < l.length
  · rw [if_pos (by simp; omega), if_pos h1]
  · rw [if_neg (by simp; omega), if_neg h1, if_pos (by omega)]
    rw [x47 (key := z0s.Key) (g := gA) (fin := fun s => y1f s) (r := some 0) (fun s => rfl) l 0 [] fun j x s hx => ?_]
    · split
      · rfl
      · next h => have : chR z0s.Key gA l [] = 0 := by simpa using h
                  rw [this]
    · obtain ⟨k1, k2⟩ := hb.2 x hx
      unfold y1e z7m
      simp only [x56 _ (show x.Key.length ≤ 1000000000 by omega), x56 _ (show x.Owner.length ≤ 1000000000 by omega), Option.bind_some]
      have e : (Op.bytesLess x.Key s || x.Key == s) = leB x.Key s := rfl
      rw [e]
      unfold gA
      cases keyP x.Key <;> cases keyP x.Owner <;> cases leB x.Key s <;> simp
def hasA (l:List z0s) (key:Bs):Bool:=l.any fun x=>decide (x.Key=key)
theorem x5e (l:List z0s) (key:Bs) (hl:l.length≤100000) (hr:x0r z0s.Key l):Ok (y1g l key) fun r=>r.2=hasA l key∧(r.2=true→r.1=fdx (fun x:z0s=>decide (x.Key=key)) 0 l):=by
 unfold y1g
 have h:=x7n z0s.Key l key (p:=fun (a0:z0s) (a1:Bs)=>y06 a0 a1) (by omega) (fun x _=>rfl) hr
 exact z1c (o:=z23 l key (fun (a0:z0s) (a1:Bs)=>y06 a0 a1)) h fun r hr=>z13 hr
theorem y88 (l:List z0s) (key:Bs) (hl:l.length≤100000):z92 l key=some (fdx (fun x:z0s=>decide (x.Key=key)) 0 l):=by
 unfold z92
 have h:z4t l (fun (a0:z0s)=>z9w a0 key)=some (fdx (fun x:z0s=>decide (x.Key=key)) 0 l):=
  x4y l (p:=fun (a0:z0s)=>z9w a0 key) (fun x=>decide (x.Key=key)) (by omega) fun x _=>rfl
 rw [h]; rfl
def plP (c:z0i) (x:z0f):Bool:=match at? c.Plans (ixL c x.Plan) with | some p=>decide (p.Product≠x.Product) | none=>false
def ef1 (c:z0i) (apps:List z0s) (l:List z0f) (k:Nat) (x:z0f):Int:=
 if momP x.At=false then 1 else if (hasA apps x.App && hasP c x.Product)=false then 8 else if outP x.Kind 1 6=true then 4 else if (decide (x.Kind≠1) && decide (x.Plan≠[]))=true then 3 else
 if (decide (x.Kind=1) && !hasL c x.Plan)=true then 8 else if (decide (x.Kind=1) && plP c x)=true then 16 else if y7e l k x=true then 7 else 0
def eF (c:z0i) (apps:List z0s) (l:List z0f):Int:=
 if catF c≠0 then catF c else if apF apps≠0 then apF apps else if 1000 < l.length then 2 else feI (ef1 c apps l) 0 l
section
variable {c:z0i} {apps:List z0s} {l:List z0f} (hb:CB c) (ha:AB apps) (hl:∀ x,x∈l→EB x)
include hb ha hl
theorem w8w (h1:catF c=0) (h2:apF apps=0) (k:Nat) (x:z0f) (hx:l[k]?=some x) (hk:l.length≤1000000):y0w c apps l (k:Int)=some (ef1 c apps l k x):=by
 obtain ⟨⟨hp,hpl⟩,_⟩:=y5n h1
 have hlt:=z9l hx
 have hJ:z6z l (k:Int) x=some (if y7e l k x=true then 7 else 0):=by
  unfold z6z z8f
  by_cases h0:0 < k
  ·obtain ⟨y,hy⟩:∃ y,l[k - 1]?=some y:=⟨_,List.getElem?_eq_getElem (by omega)⟩
   have e1:at? l (wr ((k:Int) - 1))=some y:=by rw [z6j (by omega),y8i h0]; exact hy
   have e2:decide (0 < (k:Int))=true:=by simpa using h0
   have e3:y7e l k x=decide (0≤orE y x):=by simp [y7e,h0,hy]
   simp only [e2,if_true,e1,Option.bind_some,e3,w4y]
   by_cases h5:0≤orE y x <;> simp [h5]
  ·have e2:decide (0 < (k:Int))=false:=by simpa using h0
   have e3:y7e l k x=false:=by simp [y7e,h0]
   rw [e2,e3]; rfl
 obtain ⟨ra,a1,a2,_⟩:=x5e apps x.App (by have:=ha.1; omega) (x5f h2)
 obtain ⟨rp,p1,p2⟩:=y6s c x.Product hb.np hp
 unfold y0w
 rw [x0z,hx]
 simp only [Option.bind_some,x2i,a1,a2,p1,p2,x5x,hJ]
 unfold ef1
 rcases Bool.eq_false_or_eq_true (momP x.At) with b1 | b1 <;> rcases Bool.eq_false_or_eq_true (hasA apps x.App) with b2 | b2 <;> rcases Bool.eq_false_or_eq_true (hasP c x.Product) with b3 | b3 <;> simp only [b1,b2,b3,Bool.not_true,Bool.not_false,Bool.false_eq_true,if_true,if_false,Bool.and_true,Bool.and_false,reduceCtorEq] <;> (try rfl)
 rcases Bool.eq_false_or_eq_true (outP x.Kind 1 6) with b4 | b4
 ·simp [b4]
 ·simp only [b4,Bool.false_eq_true,if_false]
  by_cases b5:x.Kind=1
  ·rcases y7c c x.Plan hb.nl hpl with ⟨q1,q2,q3⟩ | ⟨q1,q2,y,q3,q4,q5,q6⟩
   ·simp [b5,q1,q3]
   ·have q7:plP c x=decide (y.Product≠x.Product):=by unfold plP; rw [q3]
    simp only [b5,q1,q6,q7,ne_eq,not_true_eq_false,decide_false,decide_true,Bool.and_false,Bool.false_and,Bool.true_and,Bool.not_true,Bool.false_eq_true,if_false,if_true,Option.bind_some]
    by_cases q8:y.Product=x.Product <;> simp [q8]
  ·by_cases b6:x.Plan=[] <;> simp [b5,b6]
theorem w8v (h1:catF c=0) (h2:apF apps=0) (k:Nat) (x:z0f) (hx:l[k]?=some x):z8c c apps l k x=if ef1 c apps l k x≠0 then some (.inr (ef1 c apps l k x)) else some (.inl ()):=by
 obtain ⟨⟨hp,hpl⟩,_⟩:=y5n h1
 have hJ:∀ v,z48 l k x v=if v=true then some (.inr 16) else if y7e l k x=true then some (.inr 7) else some (.inl ()):=by
  intro v
  unfold z48 z6t
  cases v
  ·simp only [Bool.false_eq_true,if_false]
   by_cases h0:0 < k
   ·obtain ⟨y,hy⟩:∃ y,l[k - 1]?=some y:=⟨_,List.getElem?_eq_getElem (by have:=z9l hx; omega)⟩
    have e1:at? l ((k:Int) - 1)=some y:=by rw [y8i h0]; exact hy
    have e2:decide (0 < (k:Int))=true:=by simpa using h0
    have e3:y7e l k x=decide (0≤orE y x):=by simp [y7e,h0,hy]
    simp only [e2,if_true,e1,Option.bind_some,e3,x1h y x (hl y (List.mem_of_getElem? hy)).t (hl x (List.mem_of_getElem? hx)).t]
   ·have e2:decide (0 < (k:Int))=false:=by simpa using h0
    have e3:y7e l k x=false:=by simp [y7e,h0]
    rw [e2,e3]; rfl
  ·simp
 have e1:z3v c x.Plan=some (ixL c x.Plan):=y9v c x.Plan hb.nl
 have e2:decide (fdx (fun y:z0s=>decide (y.Key=x.App)) 0 apps < 0) = !hasA apps x.App:=y64 _ _
 have e3:decide (fdx (fun y:z0r=>decide (y.Key=x.Product)) 0 c.Products < 0) = !hasP c x.Product:=y64 _ _
 have e4:decide (ixL c x.Plan < 0) = !hasL c x.Plan:=y64 (fun y:z0p=>decide (y.Key=x.Plan)) c.Plans
 unfold z8c z6u
 simp only [e1,x5z,y88 apps x.App (by have:=ha.1; omega),y9u c x.Product hb.np,x4w,Option.bind_some,e2,e3,e4,hJ]
 unfold ef1
 rcases Bool.eq_false_or_eq_true (momP x.At) with b1 | b1 <;> rcases Bool.eq_false_or_eq_true (hasA apps x.App) with b2 | b2 <;> rcases Bool.eq_false_or_eq_true (hasP c x.Product) with b3 | b3 <;> simp only [b1,b2,b3,Bool.not_true,Bool.not_false,Bool.false_eq_true,if_true,if_false,Bool.and_true,Bool.and_false,ne_eq,not_true_eq_false,not_false_eq_true,reduceCtorEq] <;> (try rfl)
 rcases Bool.eq_false_or_eq_true (outP x.Kind 1 6) with b4 | b4
 ·simp [b4]
 ·simp only [b4,Bool.false_eq_true,if_false,Bool.not_false,Bool.not_true]
  by_cases b5:x.Kind=1
  ·rcases y7c c x.Plan hb.nl hpl with ⟨q1,q2,q3⟩ | ⟨q1,q2,y,q3,q4,q5,q6⟩
   ·simp [b5,q1]
   ·have q7:plP c x=decide (y.Product≠x.Product):=by unfold plP; rw [q3]
    simp only [b5,q1,q3,q7,ne_eq,not_true_eq_false,decide_false,decide_true,Bool.and_false,Bool.false_and,Bool.true_and,Bool.not_true,Bool.false_eq_true,if_false,if_true,Option.bind_some]
    by_cases q8:y.Product=x.Product
    ·rcases Bool.eq_false_or_eq_true (y7e l k x) with b7 | b7 <;> simp [q8,b7]
    ·simp [q8]
  ·by_cases b6:x.Plan=[]
   ·rcases Bool.eq_false_or_eq_true (y7e l k x) with b7 | b7 <;> simp [b5,b6,b7]
   ·simp [b5,b6]
theorem x6e:z96 c apps l=some (eF c apps l):=by
 unfold z96 eF
 rw [x2n c hb,x3l apps ha]
 simp only [Option.bind_some]
 by_cases h1:catF c=0
 ·rw [if_neg (by simpa using h1),if_neg (not_not_intro h1)]
  by_cases h2:apF apps=0
  ·rw [if_neg (by simpa using h2),if_neg (not_not_intro h2)]
   by_cases h3:1000 < l.length
   ·rw [if_pos (by simp; omega),if_pos h3]
   ·rw [if_neg (by simp; omega),if_neg h3,if_pos (by omega)]
    refine x2k rfl l 0 fun j x _ hx => ?_
    have hx:l[j]?=some x:=by simpa using hx
    unfold y08
    rw [w8w hb ha hl h1 h2 j x hx (by omega)]
    simp only [Option.bind_some]
    by_cases hq:ef1 c apps l j x=0 <;> simp [hq]
  ·rw [if_pos (by simpa using h2),if_pos h2]
 ·rw [if_pos (by simpa using h1),if_pos h1]
theorem x2w:z8n c apps l=some (eF c apps l):=by
 unfold z8n y1w eF
 rw [y9j c hb,x00 apps ha]
 simp only [Option.bind_some]
 by_cases h1:catF c=0
 ·have e:(if decide (catF c≠0)=true then some (catF c) else some (apF apps))=some (apF apps):=if_neg (by simpa using h1)
  rw [e,if_neg (not_not_intro h1)]
  simp only [Option.bind_some]
  by_cases h2:apF apps=0
  ·rw [if_neg (by simpa using h2),if_neg (not_not_intro h2)]
   by_cases h3:1000 < l.length
   ·rw [if_pos (by simp; omega),if_pos h3]
   ·rw [if_neg (by simp; omega),if_neg h3,if_pos (by omega)]
    exact x2k rfl l 0 fun j x _ hx=>w8v hb ha hl h1 h2 j x (by simpa using hx)
  ·rw [if_pos (by simpa using h2),if_pos h2]
 ·have e:(if decide (catF c≠0)=true then some (catF c) else some (apF apps))=some (catF c):=if_pos (by simpa using h1)
  rw [e,if_pos h1]
  simp only [Option.bind_some]
  rw [if_pos (by simpa using h1)]
end
structure EOk (c:z0i) (apps:List z0s) (x:z0f):Prop where
 t:0≤x.At∧x.At≤345686399999
 a:hasA apps x.App=true
 p:hasP c x.Product=true
 k:1≤x.Kind∧x.Kind≤6
 l:x.Kind=1→hasL c x.Plan=true
theorem x8v {c:z0i} {apps:List z0s} {l:List z0f} {k:Nat} {x:z0f} (h:ef1 c apps l k x=0):EOk c apps x∧y7e l k x=false:=by
 unfold ef1 at h
 rcases Bool.eq_false_or_eq_true (momP x.At) with b1 | b1
 ·rcases Bool.eq_false_or_eq_true (hasA apps x.App) with b2 | b2 <;> rcases Bool.eq_false_or_eq_true (hasP c x.Product) with b3 | b3 <;> simp [b1,b2,b3] at h
  rcases Bool.eq_false_or_eq_true (outP x.Kind 1 6) with b4 | b4
  ·simp [b4] at h
  ·simp only [b4,Bool.false_eq_true,if_false] at h
   have ht:0≤x.At∧x.At≤345686399999:=by unfold momP at b1; simp at b1; omega
   rcases Bool.eq_false_or_eq_true (y7e l k x) with b7 | b7 <;> rcases Bool.eq_false_or_eq_true (plP c x) with b8 | b8 <;> rcases Bool.eq_false_or_eq_true (hasL c x.Plan) with b9 | b9 <;> by_cases b5:x.Kind=1 <;> by_cases b6:x.Plan=[] <;> simp only [b7,b8,b9] at h <;> simp [b5,b6] at h
   all_goals exact ⟨⟨ht,b2,b3,y56 b4,fun hk=>by first | exact b9 | exact absurd hk b5⟩,b7⟩
 ·simp [b1] at h
theorem x7r {c:z0i} {apps:List z0s} {l:List z0f} (h:eF c apps l=0):(catF c=0∧apF apps=0∧l.length≤1000)∧(∀ x,x∈l→EOk c apps x)∧∀ k x,l[k]?=some x→y7e l k x=false:=by
 unfold eF at h
 by_cases h1:catF c=0
 ·rw [if_neg (not_not_intro h1)] at h
  by_cases h2:apF apps=0
  ·rw [if_neg (not_not_intro h2)] at h
   by_cases h3:1000 < l.length
   ·rw [if_pos h3] at h; omega
   ·rw [if_neg h3] at h
    have hz:∀ k x,l[k]?=some x→ef1 c apps l k x=0:=fun k x hx=>by have:=x1i l 0 h k x hx; simpa using this
    refine ⟨⟨h1,h2,by omega⟩,fun x hx => ?_,fun k x hx=>(x8v (hz k x hx)).2⟩
    obtain ⟨j,hj⟩:=List.getElem?_of_mem hx
    exact (x8v (hz j x hj)).1
  ·rw [if_pos h2] at h; exact absurd h h2
 ·rw [if_pos h1] at h; exact absurd h h1
end Go.Proofs.YthmmalklamiefaaGreatDoor
