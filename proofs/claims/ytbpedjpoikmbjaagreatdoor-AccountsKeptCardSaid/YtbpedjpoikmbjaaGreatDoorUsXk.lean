import Derived.Test.YtbpedjpoikmbjaaGreatDoorEgXk
import Derived.Test.YtbpedjpoikmbjaaGreatDoorMl
import Derived.Test.YtbpedjpoikmbjaaGreatDoorRng
import Derived.Test.YtbpedjpoikmbjaaGreatDoorCpXk
import Derived.Test.YtbpedjpoikmbjaaGreatDoorXkm
namespace Go.Proofs.YtbpedjpoikmbjaaGreatDoor
set_option linter.unusedVariables false
set_option linter.unusedSimpArgs false
set_option linter.unusedSectionVars false
set_option maxRecDepth 20000
def gA (a:zn) (late:Bool):Int:=if (keyP a.Key && keyP a.Owner)=false then 5 else if late=true then 7 else 0
def apF (l:List zn):Int:=if 500 < l.length then 2 else chR zn.Key gA l []
def AB (l:List zn):Prop:=l.length<=1000/\∀ x,x∈l->x.Key.length<=100/\x.Owner.length<=100
theorem w7l (x:zn):gA x true≠0:=by unfold gA;split <;> simp
theorem w7m (x:zn):leB x.Key []=false∨∀ a b,gA x a=gA x b:=by
 cases hk:keyP x.Key
 ·exact .inr λa b=>by simp [gA,hk]
 ·exact .inl (y87 hk)
theorem z7s {l:List zn} (h:apF l=0):kr zn.Key l:=by
 unfold apF at h;split at h
 ·omega
 ·exact (y5q w7l l [] h).1.1
theorem x03 (l : List zn) (hb : AB l) : z2w l = some (apF l) := by
  have hn:=hb.1;unfold z2w apF
  by_cases h1 : 500 < l.length
  · rw [if_pos (by simp;omega),if_pos h1]
  · rw [if_neg (by simp;omega),if_neg h1,if_pos (by omega)];rw [y5s (key:=zn.Key) (g:=gA) w7m l (r:=some 0) rfl l 0 [] (.inl ⟨rfl,rfl⟩) (λj=>by simp) λj x hx=>?_]
    · split
      · rfl
      · next h => have : chR zn.Key gA l [] = 0 := by simpa using h
                  rw [this]
    · obtain⟨k1,k2⟩ := hb.2 x (List.mem_of_getElem? hx)
      have hJ : ∀ v,z2o l j x v = if v = true then some (.inr 5) else if jr zn.Key l j x = true then some (.inr 7) else some (.inl ()) := by
        intro v;unfold z2o z5c;cases v
        · simp only [Bool.false_eq_true,if_false]
          by_cases h0 : 0 < j
          · obtain⟨y,hy⟩ : ∃ y,l[j-1]? = some y:=⟨_,List.getElem?_eq_getElem (by have:=ji hx;omega)⟩
            have e1 : at? l ((j : Int)-1) = some y:=by rw [z0a h0];exact hy
            have e2 : decide (0 < (j : Int)) = true:=by simpa using h0
            have e3 : jr zn.Key l j x = leB x.Key y.Key:=by simp [jr,h0,hy]
            simp only [e2,if_true,e1,Option.bind_some,e3];rfl
          · have e2 : decide (0 < (j : Int)) = false:=by simpa using h0
            have e3 : jr zn.Key l j x = false:=by simp [jr,h0]
            rw [e2,e3];rfl
        · simp
      unfold y3e;simp only [y01 _ (show x.Key.length<=1000000000 by omega),y01 _ (show x.Owner.length<=1000000000 by omega),Option.bind_some,hJ];unfold gA;cases keyP x.Key <;> cases keyP x.Owner <;> cases jr zn.Key l j x <;> simp
theorem x1l (l : List zn) (hb : AB l) : z56 l = some (apF l) := by
  have hn:=hb.1;unfold z56 apF
  by_cases h1 : 500 < l.length
  · rw [if_pos (by simp;omega),if_pos h1]
  · rw [if_neg (by simp;omega),if_neg h1,if_pos (by omega)];rw [y5r (key:=zn.Key) (g:=gA) (fin:=λs=>y4y s) (r:=some 0) (λs=>rfl) l 0 [] λj x s hx=>?_]
    · split
      · rfl
      · next h => have : chR zn.Key gA l [] = 0 := by simpa using h
                  rw [this]
    · obtain⟨k1,k2⟩ := hb.2 x hx;unfold y4x z63;simp only [y0w _ (show x.Key.length<=1000000000 by omega),y0w _ (show x.Owner.length<=1000000000 by omega),Option.bind_some];have e : (Op.bytesLess x.Key s || x.Key == s) = leB x.Key s:=rfl;rw [e];unfold gA;cases keyP x.Key <;> cases keyP x.Owner <;> cases leB x.Key s <;> simp
def hasA (l:List zn) (key:Bs):Bool:=l.any λx=>decide (x.Key=key)
theorem x1m (l:List zn) (key:Bs) (hl:l.length<=100000) (hr:kr zn.Key l):Ok (z05 l key) λr=>r.2=hasA l key/\(r.2=true->r.1=fdx (λx:zn=>decide (x.Key=key)) 0 l):=by
 unfold z05;have h:=y98 zn.Key l key (p:=λ(a0:zn) (a1:Bs)=>z5r a0 a1) (by omega) (λx _=>rfl) hr;exact ym (o:=y32 l key (λ(a0:zn) (a1:Bs)=>z5r a0 a1)) h λr hr=>qt hr
theorem x4m (l:List zn) (key:Bs) (hl:l.length<=100000):z58 l key=some (fdx (λx:zn=>decide (x.Key=key)) 0 l):=by
 unfold z58
 have h:z9o l (λ(a0:zn)=>z57 a0 key)=some (fdx (λx:zn=>decide (x.Key=key)) 0 l):=
  y1d l (p:=λ(a0:zn)=>z57 a0 key) (λx=>decide (x.Key=key)) (by omega) λx _=>rfl
 rw [h];rfl
def plP (c:zw) (x:zj):Bool:=match at? c.Plans (ixL c x.Plan) with|some p=>decide (p.Product≠x.Product)|none=>false
def ef1 (c:zw) (apps:List zn) (l:List zj) (k:Nat) (x:zj):Int:=
 if momP x.At=false then 1 else if (hasA apps x.App && hasP c x.Product)=false then 8 else if outP x.Kind 1 6=true then 4 else if (decide (x.Kind≠1) && decide (x.Plan≠[]))=true then 3 else
 if (decide (x.Kind=1) && !hasL c x.Plan)=true then 8 else if (decide (x.Kind=1) && plP c x)=true then 16 else if kn l k x=true then 7 else 0
def eF (c:zw) (apps:List zn) (l:List zj):Int:=
 if catF c≠0 then catF c else if apF apps≠0 then apF apps else if 1000 < l.length then 2 else feI (ef1 c apps l) 0 l
section
variable {c:zw} {apps:List zn} {l:List zj} (hb:CB c) (ha:AB apps) (hl:∀ x,x∈l->EB x)
include hb ha hl
theorem w8f (h1:catF c=0) (h2:apF apps=0) (k:Nat) (x:zj) (hx:l[k]?=some x) (hk:l.length<=1000000):z9v c apps l (k:Int)=some (ef1 c apps l k x):=by
 obtain⟨⟨hp,hpl⟩,_⟩:=Wy h1;have hlt:=ji hx
 have hJ:z2k l (k:Int) x=some (if kn l k x=true then 7 else 0):=by
  unfold z2k z49
  by_cases h0:0 < k
  ·obtain⟨y,hy⟩:∃ y,l[k-1]?=some y:=⟨_,List.getElem?_eq_getElem (by omega)⟩
   have e1:at? l (wr ((k:Int)-1))=some y:=by rw [wb (by omega),z0a h0];exact hy
   have e2:decide (0 < (k:Int))=true:=by simpa using h0
   have e3:kn l k x=decide (0<=orE y x):=by simp [kn,h0,hy]
   simp only [e2,if_true,e1,Option.bind_some,e3,w8r]
   by_cases h5:0<=orE y x <;> simp [h5]
  ·have e2:decide (0 < (k:Int))=false:=by simpa using h0
   have e3:kn l k x=false:=by simp [kn,h0]
   rw [e2,e3];rfl
 obtain⟨ra,a1,a2,_⟩:=x1m apps x.App (by have:=ha.1;omega) (z7s h2);obtain⟨rp,p1,p2⟩:=y75 c x.Product hb.np hp;unfold z9v;rw [z1s,hx];simp only [Option.bind_some,y4i,a1,a2,p1,p2,z0z,hJ];unfold ef1;rcases Bool.eq_false_or_eq_true (momP x.At) with b1|b1 <;> rcases Bool.eq_false_or_eq_true (hasA apps x.App) with b2|b2 <;> rcases Bool.eq_false_or_eq_true (hasP c x.Product) with b3|b3 <;> simp only [b1,b2,b3,Bool.not_true,Bool.not_false,Bool.false_eq_true,if_true,if_false,Bool.and_true,Bool.and_false,reduceCtorEq] <;> (try rfl);rcases Bool.eq_false_or_eq_true (outP x.Kind 1 6) with b4|b4
 ·simp [b4]
 ·simp only [b4,Bool.false_eq_true,if_false]
  by_cases b5:x.Kind=1
  ·rcases z5d c x.Plan hb.nl hpl with ⟨q1,q2,q3⟩|⟨q1,q2,y,q3,q4,q5,q6⟩
   ·simp [b5,q1,q3]
   ·have q7:plP c x=decide (y.Product≠x.Product):=by unfold plP;rw [q3]
    simp only [b5,q1,q6,q7,ne_eq,not_true_eq_false,decide_false,decide_true,Bool.and_false,Bool.false_and,Bool.true_and,Bool.not_true,Bool.false_eq_true,if_false,if_true,Option.bind_some]
    by_cases q8:y.Product=x.Product <;> simp [q8]
  ·by_cases b6:x.Plan=[] <;> simp [b5,b6]
theorem w8e (h1:catF c=0) (h2:apF apps=0) (k:Nat) (x:zj) (hx:l[k]?=some x):y1b c apps l k x=if ef1 c apps l k x≠0 then some (.inr (ef1 c apps l k x)) else some (.inl ()):=by
 obtain⟨⟨hp,hpl⟩,_⟩:=Wy h1
 have hJ:∀ v,z3q l k x v=if v=true then some (.inr 16) else if kn l k x=true then some (.inr 7) else some (.inl ()):=by
  intro v;unfold z3q z60;cases v
  ·simp only [Bool.false_eq_true,if_false]
   by_cases h0:0 < k
   ·obtain⟨y,hy⟩:∃ y,l[k-1]?=some y:=⟨_,List.getElem?_eq_getElem (by have:=ji hx;omega)⟩
    have e1:at? l ((k:Int)-1)=some y:=by rw [z0a h0];exact hy
    have e2:decide (0 < (k:Int))=true:=by simpa using h0
    have e3:kn l k x=decide (0<=orE y x):=by simp [kn,h0,hy]
    simp only [e2,if_true,e1,Option.bind_some,e3,y3l y x (hl y (List.mem_of_getElem? hy)).t (hl x (List.mem_of_getElem? hx)).t]
   ·have e2:decide (0 < (k:Int))=false:=by simpa using h0
    have e3:kn l k x=false:=by simp [kn,h0]
    rw [e2,e3];rfl
  ·simp
 have e1:xr c x.Plan=some (ixL c x.Plan):=y3f c x.Plan hb.nl;have e2:decide (fdx (λy:zn=>decide (y.Key=x.App)) 0 apps < 0) = !hasA apps x.App:=z1i _ _;have e3:decide (fdx (λy:yl=>decide (y.Key=x.Product)) 0 c.Products < 0) = !hasP c x.Product:=z1i _ _;have e4:decide (ixL c x.Plan < 0) = !hasL c x.Plan:=z1i (λy:yd=>decide (y.Key=x.Plan)) c.Plans;unfold y1b z61;simp only [e1,y8p,x4m apps x.App (by have:=ha.1;omega),y76 c x.Product hb.np,Qm,Option.bind_some,e2,e3,e4,hJ];unfold ef1;rcases Bool.eq_false_or_eq_true (momP x.At) with b1|b1 <;> rcases Bool.eq_false_or_eq_true (hasA apps x.App) with b2|b2 <;> rcases Bool.eq_false_or_eq_true (hasP c x.Product) with b3|b3 <;> simp only [b1,b2,b3,Bool.not_true,Bool.not_false,Bool.false_eq_true,if_true,if_false,Bool.and_true,Bool.and_false,ne_eq,not_true_eq_false,not_false_eq_true,reduceCtorEq] <;> (try rfl);rcases Bool.eq_false_or_eq_true (outP x.Kind 1 6) with b4|b4
 ·simp [b4]
 ·simp only [b4,Bool.false_eq_true,if_false,Bool.not_false,Bool.not_true]
  by_cases b5:x.Kind=1
  ·rcases z5d c x.Plan hb.nl hpl with ⟨q1,q2,q3⟩|⟨q1,q2,y,q3,q4,q5,q6⟩
   ·simp [b5,q1]
   ·have q7:plP c x=decide (y.Product≠x.Product):=by unfold plP;rw [q3]
    simp only [b5,q1,q3,q7,ne_eq,not_true_eq_false,decide_false,decide_true,Bool.and_false,Bool.false_and,Bool.true_and,Bool.not_true,Bool.false_eq_true,if_false,if_true,Option.bind_some]
    by_cases q8:y.Product=x.Product
    ·rcases Bool.eq_false_or_eq_true (kn l k x) with b7|b7 <;> simp [q8,b7]
    ·simp [q8]
  ·by_cases b6:x.Plan=[]
   ·rcases Bool.eq_false_or_eq_true (kn l k x) with b7|b7 <;> simp [b5,b6,b7]
   ·simp [b5,b6]
theorem w8w:z90 c apps l=some (eF c apps l):=by
 unfold z90 eF;rw [x02 c hb,x03 apps ha];simp only [Option.bind_some]
 by_cases h1:catF c=0
 ·rw [if_neg (by simpa using h1),if_neg (not_not_intro h1)]
  by_cases h2:apF apps=0
  ·rw [if_neg (by simpa using h2),if_neg (not_not_intro h2)]
   by_cases h3:1000 < l.length
   ·rw [if_pos (by simp;omega),if_pos h3]
   ·rw [if_neg (by simp;omega),if_neg h3,if_pos (by omega)];refine z3x rfl l 0 λj x _ hx=>?_;have hx:l[j]?=some x:=by simpa using hx
    unfold y3c;rw [w8f hb ha hl h1 h2 j x hx (by omega)];simp only [Option.bind_some]
    by_cases hq:ef1 c apps l j x=0 <;> simp [hq]
  ·rw [if_pos (by simpa using h2),if_pos h2]
 ·rw [if_pos (by simpa using h1),if_pos h1]
theorem w79:y0a c apps l=some (eF c apps l):=by
 unfold y0a z5y eF;rw [x05 c hb,x1l apps ha];simp only [Option.bind_some]
 by_cases h1:catF c=0
 ·have e:(if decide (catF c≠0)=true then some (catF c) else some (apF apps))=some (apF apps):=if_neg (by simpa using h1);rw [e,if_neg (not_not_intro h1)];simp only [Option.bind_some]
  by_cases h2:apF apps=0
  ·rw [if_neg (by simpa using h2),if_neg (not_not_intro h2)]
   by_cases h3:1000 < l.length
   ·rw [if_pos (by simp;omega),if_pos h3]
   ·rw [if_neg (by simp;omega),if_neg h3,if_pos (by omega)];exact z3x rfl l 0 λj x _ hx=>w8e hb ha hl h1 h2 j x (by simpa using hx)
  ·rw [if_pos (by simpa using h2),if_pos h2]
 ·have e:(if decide (catF c≠0)=true then some (catF c) else some (apF apps))=some (catF c):=if_pos (by simpa using h1);rw [e,if_pos h1];simp only [Option.bind_some];rw [if_pos (by simpa using h1)]
end
structure EOk (c:zw) (apps:List zn) (x:zj):Prop where
 t:0<=x.At/\x.At<=345686399999
 a:hasA apps x.App=true
 p:hasP c x.Product=true
 k:1<=x.Kind/\x.Kind<=6
 l:x.Kind=1->hasL c x.Plan=true
theorem x7e {c:zw} {apps:List zn} {l:List zj} {k:Nat} {x:zj} (h:ef1 c apps l k x=0):EOk c apps x/\kn l k x=false:=by
 unfold ef1 at h;rcases Bool.eq_false_or_eq_true (momP x.At) with b1|b1
 ·rcases Bool.eq_false_or_eq_true (hasA apps x.App) with b2|b2 <;> rcases Bool.eq_false_or_eq_true (hasP c x.Product) with b3|b3 <;> simp [b1,b2,b3] at h;rcases Bool.eq_false_or_eq_true (outP x.Kind 1 6) with b4|b4
  ·simp [b4] at h
  ·simp only [b4,Bool.false_eq_true,if_false] at h;have ht:0<=x.At/\x.At<=345686399999:=by unfold momP at b1;simp at b1;omega
   rcases Bool.eq_false_or_eq_true (kn l k x) with b7|b7 <;> rcases Bool.eq_false_or_eq_true (plP c x) with b8|b8 <;> rcases Bool.eq_false_or_eq_true (hasL c x.Plan) with b9|b9 <;> by_cases b5:x.Kind=1 <;> by_cases b6:x.Plan=[] <;> simp only [b7,b8,b9] at h <;> simp [b5,b6] at h
   all_goals exact⟨⟨ht,b2,b3,z00 b4,λhk=>by first|exact b9|exact absurd hk b5⟩,b7⟩
 ·simp [b1] at h
theorem z7m {c:zw} {apps:List zn} {l:List zj} (h:eF c apps l=0):(catF c=0/\apF apps=0/\l.length<=1000)/\(∀ x,x∈l->EOk c apps x)/\∀ k x,l[k]?=some x->kn l k x=false:=by
 unfold eF at h
 by_cases h1:catF c=0
 ·rw [if_neg (not_not_intro h1)] at h
  by_cases h2:apF apps=0
  ·rw [if_neg (not_not_intro h2)] at h
   by_cases h3:1000 < l.length
   ·rw [if_pos h3] at h;omega
   ·rw [if_neg h3] at h;have hz:∀ k x,l[k]?=some x->ef1 c apps l k x=0:=λk x hx=>by have:=z7j l 0 h k x hx;simpa using this
    refine⟨⟨h1,h2,by omega⟩,λx hx=>?_,λk x hx=>(x7e (hz k x hx)).2⟩;obtain⟨j,hj⟩:=List.getElem?_of_mem hx;exact (x7e (hz j x hj)).1
  ·rw [if_pos h2] at h;exact absurd h h2
 ·rw [if_pos h1] at h;exact absurd h h1
def SI (s:ya):Prop:=(0<=s.State/\s.State<=4)/\(s.State=1->s.First < 0)/\(s.State=2∨s.State=3->0<=s.First)
def folF (s:ya) (x:zj) (asked:Bool):ya×Bool:=
 if x.Kind=1 then
  if s.State=2∨s.State=3 then (if x.Plan=s.Plan∨asked=true then (s,false) else (ya.mk s.State x.Plan x.At s.First,true))
  else if s.State=1 then (s,false) else if asked=true then (ya.mk 1 x.Plan x.At (-1),true) else (ya.mk 2 x.Plan x.At x.At,true)
 else if x.Kind=2 then (if s.State=1 then (ya.mk 2 s.Plan x.At x.At,true) else (s,false))
 else if x.Kind=3 then (if s.State=1 then (ya.mk 4 s.Plan x.At s.First,true) else (s,false))
 else if x.Kind=4 then (if s.State=2 then (ya.mk 3 s.Plan x.At s.First,true) else (s,false))
 else if x.Kind=5 then (if s.State=3 then (ya.mk 2 s.Plan x.At s.First,true) else (s,false))
 else if s.State=1∨s.State=2∨s.State=3 then (ya.mk 4 s.Plan x.At s.First,true) else (s,false)
def askP (c:zw) (x:zj):Bool:=match at? c.Plans (ixL c x.Plan) with|some p=>p.Asked|none=>false
def fol (c:zw) (s:ya) (x:zj):ya×Bool:=folF s x (askP c x)
theorem z3y {c:zw} {apps:List zn} {s:ya} {x:zj} (hs:SI s) (hx:EOk c apps x):SI (fol c s x).1/\((fol c s x).2=false->(fol c s x).1=s):=by
 obtain⟨h1,h2,h3⟩:=hs;have ht:=hx.t;unfold fol folF SI;generalize askP c x=a
 repeat' split
 all_goals first
  | exact⟨⟨h1,h2,h3⟩,λ_=>rfl⟩
  | exact⟨⟨by simp only;omega,by simp only;omega,by simp only;omega⟩,λh=>by cases h⟩
theorem w7w {c:zw} {apps:List zn} {s:ya} {x:zj} (hb:CB c) (hc:catF c=0) (hs:SI s) (hx:EOk c apps x):z9u c s x=some (fol c s x):=by
  obtain⟨h1,h2,h3⟩:=hs;have ht:=hx.t;have hk:=hx.k;obtain⟨⟨_,hpl⟩,_⟩:=Wy hc;have hst:s.State=0∨s.State=1∨s.State=2∨s.State=3∨s.State=4:=by omega
  unfold z9u fol
  by_cases k1:x.Kind=1
  · have hq:=hx.l k1;rcases z5d c x.Plan hb.nl hpl with ⟨q1,_⟩|⟨_,q2,y,q3,q4,q5,q6⟩
    · rw [q1] at hq;cases hq
    · have ea:askP c x=y.Asked:=by unfold askP;rw [q3]
      rw [if_pos (by simpa using k1),q6,ea];unfold y36 z04 folF;simp only [Option.bind_some,q5];rw [if_pos k1];rcases hst with e|e|e|e|e <;> simp only [e] <;> by_cases a1:x.Plan=s.Plan <;> rcases Bool.eq_false_or_eq_true y.Asked with a2|a2 <;> simp [a1,a2]
  · have hk2:x.Kind=2∨x.Kind=3∨x.Kind=4∨x.Kind=5∨x.Kind=6:=by omega
    rw [if_neg (by simpa using k1)];unfold y33 z04 z47 z48 folF;have hcase:∀ n:Int,s.State=n->((n=1->s.First < 0)/\(n=2∨n=3->0<=s.First)):=λn hn=>by rw [← hn];exact⟨h2,h3⟩
    rcases hst with e|e|e|e|e <;> have hf:=hcase _ e <;> rcases hk2 with k|k|k|k|k <;> simp only [e,k] <;> first
      | (simp;done)
      | (have h9:¬ s.First < 0:=by have:=hf.2 (by simp); omega
         simp [h9];done)
      | (have h9:s.First < 0:=hf.1 (by simp)
         simp [h9];done)
theorem w7v {c:zw} {apps:List zn} {s:ya} {x:zj} (hb:CB c) (hc:catF c=0) (hs:SI s) (hx:EOk c apps x):z08 c s x=some (fol c s x):=by
 obtain⟨h1,h2,h3⟩:=hs;have hk:=hx.k;obtain⟨⟨_,hpl⟩,_⟩:=Wy hc;have hst:s.State=0∨s.State=1∨s.State=2∨s.State=3∨s.State=4:=by omega
 have hp:xr c x.Plan=some (ixL c x.Plan):=y3f c x.Plan hb.nl;unfold z08 fol z3i z3h z3g Zj
 by_cases k1:x.Kind=1
 ·have hq:=hx.l k1;rcases z5d c x.Plan hb.nl hpl with ⟨q1,_⟩|⟨_,q2,y,q3,q4,q5,q6⟩
  ·rw [q1] at hq;cases hq
  ·have ea:askP c x=y.Asked:=by unfold askP;rw [q3]
   have q7:decide (ixL c x.Plan < 0)=false:=by simp;omega
   rw [ea];unfold folF;simp only [hp,q3,q7,Option.bind_some,Qm];rcases hst with e|e|e|e|e <;> simp only [e,k1] <;> by_cases a1:x.Plan=s.Plan <;> rcases Bool.eq_false_or_eq_true y.Asked with a2|a2 <;> simp [a1,a2]
 ·have hk2:x.Kind=2∨x.Kind=3∨x.Kind=4∨x.Kind=5∨x.Kind=6:=by omega
  unfold folF;simp only [Qm,Option.bind_some];rcases hst with e|e|e|e|e <;> rcases hk2 with k|k|k|k|k <;> simp only [e,k] <;> simp [outP]
def wz:ya:=ya.mk 0 [] 0 (-1)
theorem z2d:SI wz:=⟨by simp [wz],by simp [wz],by simp [wz]⟩
noncomputable def bk (m:List (zx×ya)) (a p:Bs):ya:=(lkG m (zx.mk a p)).getD wz
def upS (st:Bs->Bs->ya) (a p:Bs) (s:ya):Bs->Bs->ya:=λa' p'=>if a'=a/\p'=p then s else st a' p'
def runS (c:zw):(Bs->Bs->ya)->List zj->(Bs->Bs->ya)
 | st,[]=>st
 | st,x::l=>if (fol c (st x.App x.Product) x).2=true then runS c (upS st x.App x.Product (fol c (st x.App x.Product) x).1) l else runS c st l
theorem x8y {st:Bs->Bs->ya} {a p:Bs} {s:ya} (h:∀ a p,SI (st a p)) (hs:SI s):∀ a' p',SI (upS st a p s a' p'):=λa' p'=>by
 unfold upS;split
 ·exact hs
 ·exact h a' p'
section
variable {c:zw} {apps:List zn} (hb:CB c) (hc:catF c=0)
include hb hc
end
def stRe (c:zw) (a p:Bs):ya->Nat->List zj->List Int
 | _,_,[]=>[]
 | s,k,x::l=>if x.App=a/\x.Product=p then (if (fol c s x).2=true then stRe c a p (fol c s x).1 (k+1) l else (k:Int)::stRe c a p s (k+1) l) else stRe c a p s (k+1) l
def stS (c:zw) (a p:Bs):ya->List zj->List ya
 | _,[]=>[]
 | s,x::l=>if x.App=a/\x.Product=p then (if (fol c s x).2=true then (fol c s x).1::stS c a p (fol c s x).1 l else stS c a p s l) else stS c a p s l
section
variable {c:zw} {apps:List zn} (hb:CB c) (hc:catF c=0)
include hb hc
theorem y2k (a p:Bs):∀ (l:List zj) (k:Nat) (out:List ya) (s:ya) (ref:List Int),(∀ x,x∈l->EOk c apps x)->SI s->out.length+l.length<=1000000->ref.length+l.length<=1000000 ->
  forL (λ(k:Nat) (x:zj) (s:(List ya)×(List Int))=>z3l c a p k x s.1 s.2) (λ(s:(List ya)×(List Int))=>z6q s.1 s.2) k l (out++[s],ref)=some (out++[s]++stS c a p s l,ref++stRe c a p s k l)
 | [],k,out,s,ref,_,_,_,_=>by
  show z6q (out++[s]) ref=_;unfold z6q;simp [stS,stRe]
 | x::l,k,out,s,ref,hx,hs,h1,h2=>by
  simp only [List.length_cons] at h1 h2;have x1:=hx x (by simp);have e2:=w7v hb hc hs x1;obtain⟨f1,f2⟩:=z3y hs x1
  have hstep:z3l c a p k x (out++[s]) ref=if x.App=a/\x.Product=p then (if (fol c s x).2=true then some (.inl (out++[s]++[(fol c s x).1],ref)) else some (.inl (out++[s],ref++[(k:Int)]))) else some (.inl (out++[s],ref)):=by
   have e0:(decide (x.App≠a) || decide (x.Product≠p)) = !decide (x.App=a/\x.Product=p):=by
    by_cases q1:x.App=a <;> by_cases q2:x.Product=p <;> simp [q1,q2]
   unfold z3l z3m;rw [e0]
   by_cases hp:x.App=a/\x.Product=p
   ·have e1:at? (out++[s]) (wr (((out++[s]).length:Int)-1))=some s:=by
     simp only [List.length_append,List.length_cons,List.length_nil];rw [wb (by omega)];have:((out.length+(0+1):Nat):Int)-1=(out.length:Int):=by omega
     rw [this,z1s];simp
    have e3:(!decide (x.App=a/\x.Product=p))=false:=by rw [decide_eq_true hp];rfl
    rw [e3,if_neg (by simp),e1,if_pos hp];simp only [Option.bind_some,e2];cases (fol c s x).2
    ·simp only [Bool.false_eq_true,if_false];rw [if_pos (by omega)]
    ·simp only [if_true];rw [if_pos (by simp;omega)]
   ·have e3:(!decide (x.App=a/\x.Product=p))=true:=by rw [decide_eq_false hp];rfl
    rw [e3,if_pos rfl,if_neg hp]
  show (z3l c a p k x (out++[s]) ref).bind _=_;rw [hstep]
  by_cases hp:x.App=a/\x.Product=p
  ·rw [if_pos hp];cases hf:(fol c s x).2
   ·simp only [Bool.false_eq_true,if_false,Option.bind_some,after];rw [y2k a p l (k+1) out s (ref++[(k:Int)]) (λy hy=>hx y (by simp [hy])) hs (by omega) (by simp;omega)];simp [stS,stRe,hp,hf]
   ·simp only [if_true,Option.bind_some,after];rw [y2k a p l (k+1) (out++[s]) (fol c s x).1 ref (λy hy=>hx y (by simp [hy])) f1 (by simp;omega) (by omega)];simp [stS,stRe,hp,hf]
  ·rw [if_neg hp];simp only [Option.bind_some,after];rw [y2k a p l (k+1) out s ref (λy hy=>hx y (by simp [hy])) hs (by omega) (by omega)];simp only [stS,stRe,if_neg hp]
theorem x3t (l:List zj) (a p:Bs) (hx:∀ x,x∈l->EOk c apps x) (hl:l.length<=100000):z5z c l a p=some (wz::stS c a p wz l,stRe c a p wz 0 l):=by
 unfold z5z z07;simp only [Option.bind_some];rw [if_pos (by omega)];have:=y2k (apps:=apps) hb hc a p l 0 [] wz [] hx z2d (by simp;omega) (by simp;omega);simp only [List.nil_append] at this;exact this
end
def cutT (v:Int) (l:List zj):List zj:=l.takeWhile λx=>decide (x.At<=v)
theorem x2v {α:Type} {p:α->Bool}:∀ {l:List α} {x:α},x∈l.takeWhile p->p x=true
 | [],x,h=>by simp at h
 | y::l,x,h=>by
  rw [List.takeWhile_cons] at h;split at h
  ·rename_i hy;rcases List.mem_cons.1 h with rfl|h
   ·exact hy
   ·exact x2v h
  ·simp at h
theorem y1h {v:Int} {l:List zj} {x:zj} (h:x∈cutT v l):x∈l/\x.At<=v:=
 ⟨(List.takeWhile_sublist _).subset h,by have:=x2v h;simpa using this⟩
section
variable {κ τ:Type}
theorem z4v (l:List (κ×τ)) (k:κ) (v:τ):∀ p,p∈ptG l k v->p=(k,v)∨(p∈l/\p.1≠k)∨p∈l:=by
 induction l with
 | nil=>intro p hp;simp only [ptG,List.mem_singleton] at hp;exact .inl hp
 | cons q l ih =>
  intro p hp;rw [ptG] at hp;split at hp
  ·rcases List.mem_cons.1 hp with rfl|hp
   ·exact .inl rfl
   ·exact .inr (.inr (by simp [hp]))
  ·rcases List.mem_cons.1 hp with rfl|hp
   ·exact .inr (.inr (by simp))
   ·rcases ih p hp with h|h|h
    ·exact .inl h
    ·exact .inr (.inr (by simp [h.1]))
    ·exact .inr (.inr (by simp [h]))
theorem y24 {l:List (κ×τ)} (k:κ) (v:τ) (h:l.Pairwise λp q=>p.1≠q.1):(ptG l k v).Pairwise λp q=>p.1≠q.1:=by
 induction l with
 | nil=>simp [ptG]
 | cons q l ih =>
  obtain⟨h1,h2⟩:=List.pairwise_cons.1 h;rw [ptG];split
  ·rename_i hq;exact List.pairwise_cons.2 ⟨λp hp=>by rw [← hq];exact h1 p hp,h2⟩
  ·rename_i hq;refine List.pairwise_cons.2 ⟨λp hp=>?_,ih h2⟩;rcases z4v l k v p hp with rfl|h|h
   ·exact hq
   ·exact h1 p h.1
   ·exact h1 p h
theorem y0s {l:List (κ×τ)} (h:l.Pairwise λp q=>p.1≠q.1) {p:κ×τ} (hp:p∈l):lkG l p.1=some p.2:=by
 obtain⟨j,hj⟩:=List.getElem?_of_mem hp;exact (y0t l j p.1 p.2 h hj).1
theorem z9d:∀ {l:List (κ×τ)} {k:κ} {v:τ},lkG l k=some v->(k,v)∈l
 | [],k,v,h=>by simp [lkG] at h
 | q::l,k,v,h=>by
  rw [lkG] at h;split at h
  ·rename_i hq;cases h;subst hq;simp
  ·exact List.mem_cons_of_mem _ (z9d h)
end
structure BI (c:zw) (l:List zj) (k:Nat) (m4:List (zx×ya)) (m5:List (zx×Int)):Prop where
 d:m4.Pairwise λp q=>p.1≠q.1
 s:∀ a p,SI (bk m4 a p)
 w:∀ q,q∈m4->q.2.State=1->∃ (i:Nat) (x:zj),l[i]?=some x/\x.App=q.1.app_/\x.Product=q.1.product_/\x.Kind=1/\x.At=q.2.Since/\lkG m5 q.1=some (i:Int)
 n:∀ q,q∈m4->q.1.app_.length<=1000000/\q.1.product_.length<=1000000
 z:m4.length<=k
theorem y5e {c:zw} {s:ya} {x:zj} (h:(fol c s x).2=true):(fol c s x).1.Since=x.At/\((fol c s x).1.State=1->x.Kind=1):=by
 unfold fol folF at *
 generalize askP c x=a at *
 split at h <;> rename_i k1
 ·rw [if_pos k1];split at h
  ·split at h
   ·simp at h
   ·rename_i h1 h2;rw [if_pos h1,if_neg h2];exact⟨rfl,λ_=>k1⟩
  ·rename_i h1;rw [if_neg h1];split at h
   ·simp at h
   ·rename_i h2;rw [if_neg h2];split <;> exact⟨rfl,λ_=>k1⟩
 ·rw [if_neg k1]
  repeat' split
  all_goals (first|exact⟨rfl,λh=>by simp at h⟩|(simp_all))
section
variable {c:zw} {apps:List zn} (hb:CB c) (hc:catF c=0)
include hb hc
end
theorem x00 {a b c d e f:Bs} (h1:cmp2 a b c d < 0) (h2:cmp2 c d e f < 0):cmp2 a b e f < 0:=by
 unfold cmp2 at *
 by_cases e1:cmpL a c=0
 ·have:=(ka _ _).1 e1;subst this;rw [if_neg (by simpa using e1)] at h1
  by_cases e2:cmpL a e=0
  ·rw [if_neg (by simpa using e2)] at h2 ⊢;exact z1n _ _ _ h1 h2
  ·rw [if_pos e2] at h2 ⊢;exact h2
 ·rw [if_pos e1] at h1
  by_cases e2:cmpL c e=0
  ·have:=(ka _ _).1 e2;subst this;rw [if_pos e1];exact h1
  ·rw [if_pos e2] at h2;have h3:=z1n _ _ _ h1 h2;rw [if_pos (by omega)];exact h3
theorem w2t {x y z:zj} (h1:orE x y < 0) (h2:orE y z < 0):orE x z < 0:=by
 unfold orE or3 at *
 by_cases a1:x.At < y.At
 ·by_cases a2:y.At < z.At
  ·rw [if_pos (by omega)];omega
  ·rw [if_neg a2] at h2
   by_cases a3:z.At < y.At
   ·rw [if_pos a3] at h2;omega
   ·rw [if_pos (by omega)];omega
 ·rw [if_neg a1] at h1
  by_cases a2:y.At < x.At
  ·rw [if_pos a2] at h1;omega
  ·rw [if_neg a2] at h1
   by_cases a3:y.At < z.At
   ·rw [if_pos (by omega)];omega
   ·rw [if_neg a3] at h2
    by_cases a4:z.At < y.At
    ·rw [if_pos a4] at h2;omega
    ·rw [if_neg a4] at h2;rw [if_neg (by omega),if_neg (by omega)];exact x00 h1 h2
theorem y7z {l:List zj} (h:∀ k x,l[k]?=some x->kn l k x=false):l.Pairwise λx y=>orE x y < 0:=by
 have key:∀ (n k:Nat) (x y:zj),l[k]?=some x->l[k+n+1]?=some y->orE x y < 0:=by
  intro n
  induction n with
  | zero =>
   intro k x y hx hy;have:=h (k+0+1) y hy;unfold kn at this;simp [hx] at this;exact this
  | succ n ih =>
   intro k x y hx hy;obtain⟨z,hz⟩:∃ z,l[k+n+1]?=some z:=⟨_,List.getElem?_eq_getElem (by have:=ji hy;omega)⟩
   have h1:=ih k x z hx hz;have h2:=h (k+(n+1)+1) y hy;unfold kn at h2;have e:k+(n+1)+1-1=k+n+1:=by omega
   rw [e,hz] at h2;simp at h2;exact w2t h1 h2
 refine List.pairwise_iff_getElem.2 λi j hi hj hij=>?_;obtain⟨n,rfl⟩:∃ n,j=i+n+1:=⟨j-i-1,by omega⟩
 exact key n i _ _ (List.getElem?_eq_getElem hi) (List.getElem?_eq_getElem hj)
theorem z9a {x y:zj} (h:orE x y < 0):x.At<=y.At:=by
 unfold orE or3 at h
 by_cases h1:x.At < y.At
 ·omega
 ·rw [if_neg h1] at h
  by_cases h2:y.At < x.At
  ·rw [if_pos h2] at h;omega
  ·omega
theorem w2u {x y:zj} (h1:x.At=y.At) (h2:x.App=y.App) (h3:x.Product=y.Product):orE x y=0:=by
 unfold orE or3 cmp2;rw [if_neg (by omega),if_neg (by omega),h2,h3,(ka _ _).2 rfl,(ka _ _).2 rfl];simp
theorem w8j {v:Int} {l:List zj} (h:l.Pairwise λx y=>orE x y < 0):∃ r,l=cutT v l++r/\∀ x,x∈r->v < x.At:=by
 induction l with
 | nil=>exact⟨[],rfl,by simp⟩
 | cons x l ih =>
  obtain⟨h1,h2⟩:=List.pairwise_cons.1 h
  by_cases hv:x.At<=v
  ·obtain⟨r,r1,r2⟩:=ih h2;refine⟨r,?_,r2⟩;have:cutT v (x::l)=x::cutT v l:=by unfold cutT;rw [List.takeWhile_cons_of_pos (by simpa using hv)]
   rw [this,List.cons_append,← r1]
  ·refine⟨x::l,?_,λy hy=>?_⟩
   ·have:cutT v (x::l)=[]:=by unfold cutT;rw [List.takeWhile_cons_of_neg (by simpa using hv)]
    rw [this];rfl
   ·rcases List.mem_cons.1 hy with rfl|hy
    ·omega
    ·have:=z9a (h1 y hy);omega
theorem z8q (c:zw) (a p:Bs):∀ (l r:List zj) (st:Bs->Bs->ya),stS c a p (st a p) (l++r)=stS c a p (st a p) l++stS c a p (runS c st l a p) r
 | [],r,st=>rfl
 | x::l,r,st=>by
  rw [List.cons_append];simp only [stS,runS]
  by_cases hp:x.App=a/\x.Product=p
  ·rw [if_pos hp,if_pos hp,hp.1,hp.2];cases hf:(fol c (st a p) x).2
   ·simp only [Bool.false_eq_true,if_false];exact z8q c a p l r st
   ·simp only [if_true];have:=z8q c a p l r (upS st a p (fol c (st a p) x).1);have e:upS st a p (fol c (st a p) x).1 a p=(fol c (st a p) x).1:=by unfold upS;rw [if_pos ⟨rfl,rfl⟩]
    rw [e] at this;rw [List.cons_append,this]
  ·rw [if_neg hp,if_neg hp];cases hf:(fol c (st x.App x.Product) x).2
   ·simp only [Bool.false_eq_true,if_false];exact z8q c a p l r st
   ·simp only [if_true];have:=z8q c a p l r (upS st x.App x.Product (fol c (st x.App x.Product) x).1);have e:upS st x.App x.Product (fol c (st x.App x.Product) x).1 a p=st a p:=by unfold upS;rw [if_neg (λh=>hp ⟨h.1.symm,h.2.symm⟩)]
    rw [e] at this;exact this
theorem z8p (c:zw) (a p:Bs):∀ (l:List zj) (st:Bs->Bs->ya),(st a p::stS c a p (st a p) l).getLast?=some (runS c st l a p)
 | [],st=>rfl
 | x::l,st=>by
  simp only [stS,runS]
  by_cases hp:x.App=a/\x.Product=p
  ·rw [if_pos hp,hp.1,hp.2];cases hf:(fol c (st a p) x).2
   ·simp only [Bool.false_eq_true,if_false];exact z8p c a p l st
   ·simp only [if_true];have:=z8p c a p l (upS st a p (fol c (st a p) x).1);have e:upS st a p (fol c (st a p) x).1 a p=(fol c (st a p) x).1:=by unfold upS;rw [if_pos ⟨rfl,rfl⟩]
    rw [e] at this;rw [List.getLast?_cons_cons];exact this
  ·rw [if_neg hp];cases hf:(fol c (st x.App x.Product) x).2
   ·simp only [Bool.false_eq_true,if_false];exact z8p c a p l st
   ·simp only [if_true];have:=z8p c a p l (upS st x.App x.Product (fol c (st x.App x.Product) x).1);have e:upS st x.App x.Product (fol c (st x.App x.Product) x).1 a p=st a p:=by unfold upS;rw [if_neg (λh=>hp ⟨h.1.symm,h.2.symm⟩)]
    rw [e] at this;exact this
theorem y2l (c:zw) (a p:Bs):∀ (l:List zj) (s:ya) (z:ya),z∈stS c a p s l->∃ x,x∈l/\z.Since=x.At
 | [],s,z,h=>by simp [stS] at h
 | x::l,s,z,h=>by
  simp only [stS] at h
  have up:∀ s,z∈stS c a p s l->∃ y,y∈x::l/\z.Since=y.At:=λs hz=>by
   obtain⟨y,y1,y2⟩:=y2l c a p l s z hz;exact⟨y,by simp [y1],y2⟩
  split at h
  ·split at h
   ·rename_i hf;rcases List.mem_cons.1 h with rfl|h
    ·exact⟨x,by simp,(y5e hf).1⟩
    ·exact up _ h
   ·exact up _ h
  ·exact up _ h
theorem x7s (v:Int) (zs:List ya):∀ n,n<=zs.length->back (λ(k:Nat) (x:ya) (s:Unit)=>y07 v k x) (λ(s:Unit)=>y08) zs n ()=some (((zs.take n).reverse.find? λz=>decide (z.Since<=v)).getD wz)
 | 0,_=>by simp [back,y08,z07,wz]
 | n+1,h=>by
  obtain⟨z,hz⟩:∃ z,zs[n]?=some z:=⟨_,List.getElem?_eq_getElem (by omega)⟩
  have e:zs.take (n+1)=zs.take n++[z]:=by rw [List.take_add_one,hz];rfl
  rw [e,List.reverse_append];show (zs[n]?).bind _=_;rw [hz];simp only [Option.bind_some,y07,List.reverse_cons,List.reverse_nil,List.nil_append,List.singleton_append]
  by_cases hv:z.Since<=v
  ·rw [if_pos (by simpa using hv),List.find?_cons_of_pos (by simpa using hv)];rfl
  ·rw [if_neg (by simpa using hv),List.find?_cons_of_neg (by simpa using hv)];exact x7s v zs n (by omega)
section
variable {c:zw} {apps:List zn} (hb:CB c) (hc:catF c=0)
include hb hc
theorem x9w {v:Int} (hv:0<=v) (l:List zj) (hx:∀ x,x∈l->EOk c apps x) (hr:l.Pairwise λx y=>orE x y < 0) (hl:l.length<=100000) (a p:Bs):z95 c l a p v=some (runS c (λ_ _=>wz) (cutT v l) a p):=by
 obtain⟨r,r1,r2⟩:=w8j (v:=v) hr
 have hlen:∀ (l:List zj) (s:ya),(stS c a p s l).length<=l.length:=by
  intro l
  induction l with
  | nil=>intro s;simp [stS]
  | cons x l ih =>
   intro s;simp only [stS];split
   ·split
    ·have:=ih (fol c s x).1;simp only [List.length_cons];omega
    ·have:=ih s;simp only [List.length_cons];omega
   ·have:=ih s;simp only [List.length_cons];omega
 unfold z95;rw [x3t hb hc l a p hx hl];simp only [Option.bind_some];have h0:=hlen l wz;rw [if_pos (by simp only [List.length_cons];omega),x7s v _ _ (Nat.le_refl _),List.take_length];congr 1
 have e1:stS c a p wz l=stS c a p wz (cutT v l)++stS c a p (runS c (λ_ _=>wz) (cutT v l) a p) r:=by
  conv=>lhs;rw [r1]
  exact z8q c a p (cutT v l) r (λ_ _=>wz)
 have e2:=z8p c a p (cutT v l) (λ_ _=>wz);rw [e1,← List.cons_append,List.reverse_append,List.find?_append]
 have e3:(stS c a p (runS c (λ_ _=>wz) (cutT v l) a p) r).reverse.find? (λz=>decide (z.Since<=v))=none:=by
  rw [List.find?_eq_none];intro z hz;obtain⟨x,x1,x2⟩:=y2l c a p r _ z (List.mem_reverse.1 hz);have:=r2 x x1;simp;omega
 rw [e3,Option.none_or];generalize hzs:wz::stS c a p wz (cutT v l)=zs at e2;have e4:zs.reverse.head?=some (runS c (λ_ _=>wz) (cutT v l) a p):=by rw [List.head?_reverse];exact e2
 cases hrev:zs.reverse with
 | nil=>rw [hrev] at e4;cases e4
 | cons z t =>
  rw [hrev] at e4;have hz:z=runS c (λ_ _=>wz) (cutT v l) a p:=by simpa using e4
  have hmem:z∈zs:=List.mem_reverse.1 (by rw [hrev];simp)
  have hs:z.Since<=v:=by
   rw [← hzs] at hmem;rcases List.mem_cons.1 hmem with rfl|hmem
   ·exact hv
   ·obtain⟨x,x1,x2⟩:=y2l c a p (cutT v l) _ z hmem;have:=(y1h x1).2;omega
  rw [List.find?_cons_of_pos (by simpa using hs),hz];rfl
end
theorem w20 {k:Int} {s:zq} (h:SB k s) (hk:k<=1000) {n:Int} (hn:0<=n/\n<=19) :
  Ok (y0n s n) λr=>(CS r.1/\(r.2.1.length<=4/\∀ x,x∈r.2.1->x.Key.length<=100/\x.Owner.length<=100)/\((r.2.2.1.length:Int)<=n/\∀ x,x∈r.2.2.1->EB x)/\r.2.2.2.1=eF r.1 r.2.1 r.2.2.1)/\SB (k+700) r.2.2.2.2:=by
 unfold y0n;refine ym (w8y h (by omega)) λr3 h3=>ym (w9q h3.2 (by omega)) λr5 h5=>ym (w78 h5.2 (by omega) h3.1 ⟨by have:=h5.1.1;omega,h5.1.2⟩ hn) λr7 h7=>?_;rw [w79 h3.1.cb ⟨by have:=h5.1.1;omega,h5.1.2⟩ h7.1.2];exact qt ⟨⟨h3.1,h5.1,h7.1,rfl⟩,h7.2.mono (by omega)⟩
theorem w96 {l:List zn} (h:l.length<=4/\∀ x,x∈l->x.Key.length<=100/\x.Owner.length<=100):AB l:=⟨by omega,h.2⟩
theorem x2e (b:Bool) (e:Int):z26 b e=some (if b=true then e else 0):=by
 unfold z26;cases b <;> rfl
theorem w8a (a b c:Int):z27 [a,b,c]=some (or2 a (or2 b c)):=by
 unfold z27 or2;rw [if_pos (by simp)];simp only [forL,y49,y5a]
 by_cases h1:a=0 <;> by_cases h2:b=0 <;> by_cases h3:c=0 <;> simp [h1,h2,h3,after]
def moF (v:Int):Int:=if momP v=true then 0 else 1
theorem x5h (v:Int):z5n v=some (moF v):=by
 unfold z5n moF;rw [y4i];simp only [Option.bind_some];cases momP v <;> rfl
theorem w27 (v:Int):z59 v=some (moF v):=by
 unfold z59 moF;rw [y8p];simp only [Option.bind_some,x2e];cases momP v <;> rfl
theorem x5i {v:Int} (h:moF v=0):0<=v:=by
 unfold moF momP at h;split at h
 ·rename_i h1;simp at h1;omega
 ·simp at h
section
variable {c:zw} {apps:List zn} {l:List zj} (hb:CB c) (ha:AB apps) (hl:∀ x,x∈l->EB x)
include hb ha hl
end
theorem w26 {k:Int} {s:zq} (h:SB k s) (hk:k<=100000):Ok (y0h s) λr=>SB (k+3) r.2:=by
 unfold y0h;refine ym (kw h (by omega) _ ⟨by simp,by simp⟩) λr2 h2=>ym (kw h2.2 (by omega) _ ⟨by simp,by simp⟩) λr4 h4=>ym (kw h4.2 (by omega) _ ⟨by simp,by simp⟩) λr6 h6=>qt (h6.2.mono (by omega))
theorem x5c {a b:Int}:or2 a b=0↔a=0/\b=0:=by
 unfold or2;split
 ·rename_i h;exact⟨λk=>absurd k h,λk=>absurd k.1 h⟩
 ·rename_i h;exact⟨λk=>⟨by simpa using h,k⟩,λk=>k.2⟩
section
variable {α β σ ρ:Type} {Q:α->Prop} {R:ρ->Prop}
def Tw (o o':Option α) (Q:α->Prop):Prop:=∃ x,o=some x/\o'=some x/\Q x
end
abbrev Us:=zz
section
variable {G:Us->Prop} {p q:Us->Us->Option Int} {n:Nat} (hn:n<=1000000) (hp:∀ x y,G x->G y->Tw (p x y) (q x y) λ_=>True)
include hn hp
omit hp
include hp
end
def orU (a b:zz):Int:=or3 a.Month b.Month a.App a.Product b.App b.Product
theorem w8n (a b:zz):y34 a b=some (orU a b):=x5b ..
theorem w2q (a b:zz) (ha:atB a.Month) (hb:atB b.Month):y4a a b=some (orU a b):=x4n _ _ _ _ _ _ ⟨ha.1,ha.2,hb.1,hb.2⟩
theorem w2v {t1 t2 t3:Int} {a1 p1 a2 p2 a3 p3:Bs} (h1:or3 t1 t2 a1 p1 a2 p2 < 0) (h2:or3 t2 t3 a2 p2 a3 p3 < 0):or3 t1 t3 a1 p1 a3 p3 < 0:=by
 unfold or3 at *
 by_cases c1:t1 < t2
 ·by_cases c2:t2 < t3
  ·rw [if_pos (by omega)];omega
  ·rw [if_neg c2] at h2
   by_cases c3:t3 < t2
   ·rw [if_pos c3] at h2;omega
   ·rw [if_pos (by omega)];omega
 ·rw [if_neg c1] at h1
  by_cases c2:t2 < t1
  ·rw [if_pos c2] at h1;omega
  ·rw [if_neg c2] at h1
   by_cases c3:t2 < t3
   ·rw [if_pos (by omega)];omega
   ·rw [if_neg c3] at h2
    by_cases c4:t3 < t2
    ·rw [if_pos c4] at h2;omega
    ·rw [if_neg c4] at h2;rw [if_neg (by omega),if_neg (by omega)];exact x00 h1 h2
theorem w2r {x y:zz} (h1:x.Month=y.Month) (h2:x.App=y.App) (h3:x.Product=y.Product):orU x y=0:=by
 unfold orU or3 cmp2;rw [if_neg (by omega),if_neg (by omega),h2,h3,(ka _ _).2 rfl,(ka _ _).2 rfl];simp
def uu (l:List zz) (k:Nat) (x:zz):Bool:=decide (0 < k) && match l[k-1]? with|some y=>decide (0<=orU y x)|none=>false
theorem w1w {l:List zz} (h:∀ k x,l[k]?=some x->uu l k x=false):l.Pairwise λx y=>orU x y < 0:=by
 have key:∀ (n k:Nat) (x y:zz),l[k]?=some x->l[k+n+1]?=some y->orU x y < 0:=by
  intro n
  induction n with
  | zero =>
   intro k x y hx hy;have:=h (k+0+1) y hy;unfold uu at this;simp [hx] at this;exact this
  | succ n ih =>
   intro k x y hx hy;obtain⟨z,hz⟩:∃ z,l[k+n+1]?=some z:=⟨_,List.getElem?_eq_getElem (by have:=ji hy;omega)⟩
   have h1:=ih k x z hx hz;have h2:=h (k+(n+1)+1) y hy;unfold uu at h2;have e:k+(n+1)+1-1=k+n+1:=by omega
   rw [e,hz] at h2;simp at h2;exact w2v h1 h2
 refine List.pairwise_iff_getElem.2 λi j hi hj hij=>?_;obtain⟨n,rfl⟩:∃ n,j=i+n+1:=⟨j-i-1,by omega⟩
 exact key n i _ _ (List.getElem?_eq_getElem hi) (List.getElem?_eq_getElem hj)
def us1 (c:zw) (apps:List zn) (l:List zz) (k:Nat) (x:zz):Int:=
 if (hasA apps x.App && hasP c x.Product)=false then 8 else if (outP x.Month 0 132 || outP x.Calls 0 1000000000000)=true then 1 else if uu l k x=true then 7 else 0
def usF (c:zw) (apps:List zn) (l:List zz):Int:=
 if catF c≠0 then catF c else if apF apps≠0 then apF apps else if 3000 < l.length then 2 else feI (us1 c apps l) 0 l
section
variable {c:zw} {apps:List zn} {l:List zz} (hb:CB c) (ha:AB apps) (hl:∀ x,x∈l->atB x.Month)
include hb ha
theorem x8s (h1:catF c=0) (h2:apF apps=0) (k:Nat) (x:zz) (hx:l[k]?=some x):z89 c apps l k x=if us1 c apps l k x≠0 then some (.inr (us1 c apps l k x)) else some (.inl ()):=by
 obtain⟨⟨hp,hpl⟩,_⟩:=Wy h1;have hlt:=ji hx
 have hJ:∀ v,z2n l k x v=if v=true then some (.inr 1) else if uu l k x=true then some (.inr 7) else some (.inl ()):=λv=>by
  unfold z2n z5a
  by_cases h0:0 < k
  ·obtain⟨y,hy⟩:∃ y,l[k-1]?=some y:=⟨_,List.getElem?_eq_getElem (by omega)⟩
   have e2:decide (0 < (k:Int))=true:=by simpa using h0
   have e3:uu l k x=decide (0<=orU y x):=by simp [uu,h0,hy]
   simp only [e2,if_true,z0a h0,hy,Option.bind_some,e3,w8n]
  ·have e2:decide (0 < (k:Int))=false:=by simpa using h0
   have e3:uu l k x=false:=by simp [uu,h0]
   rw [e2,e3];simp
 obtain⟨ra,a1,a2,_⟩:=x1m apps x.App (by have:=ha.1;omega) (z7s h2);obtain⟨rp,p1,p2⟩:=y75 c x.Product hb.np hp;unfold z89;simp only [a1,a2,p1,p2,z0z,hJ,Option.bind_some,us1];rcases Bool.eq_false_or_eq_true (hasA apps x.App) with b2|b2 <;> rcases Bool.eq_false_or_eq_true (hasP c x.Product) with b3|b3 <;> rcases Bool.eq_false_or_eq_true (outP x.Month 0 132) with b4|b4 <;> rcases Bool.eq_false_or_eq_true (outP x.Calls 0 1000000000000) with b5|b5 <;> rcases Bool.eq_false_or_eq_true (uu l k x) with b6|b6 <;> simp [b2,b3,b4,b5,b6]
theorem w8v:z9z c apps l=some (usF c apps l):=by
 unfold z9z usF;rw [x02 c hb,x03 apps ha];simp only [Option.bind_some]
 by_cases h1:catF c=0
 ·rw [if_neg (by simpa using h1),if_neg (not_not_intro h1)]
  by_cases h2:apF apps=0
  ·rw [if_neg (by simpa using h2),if_neg (not_not_intro h2)]
   by_cases h3:3000 < l.length
   ·rw [if_pos (by simp;omega),if_pos h3]
   ·rw [if_neg (by simp;omega),if_neg h3,if_pos (by omega)];exact z3x rfl l 0 λj x _ hx=>x8s hb ha h1 h2 j x (by simpa using hx)
  ·rw [if_pos (by simpa using h2),if_pos h2]
 ·rw [if_pos (by simpa using h1),if_pos h1]
include hl
theorem x8r (h1:catF c=0) (h2:apF apps=0) (k:Nat) (x:zz) (hx:l[k]?=some x):y06 c apps l k x=if us1 c apps l k x≠0 then some (.inr (us1 c apps l k x)) else some (.inl ()):=by
 have hlt:=ji hx
 have hJ:∀ v,z3j l k x v=if v=true then some (.inr 1) else if uu l k x=true then some (.inr 7) else some (.inl ()):=λv=>by
  unfold z3j z6o
  by_cases h0:0 < k
  ·obtain⟨y,hy⟩:∃ y,l[k-1]?=some y:=⟨_,List.getElem?_eq_getElem (by omega)⟩
   have e2:decide (0 < (k:Int))=true:=by simpa using h0
   have e3:uu l k x=decide (0<=orU y x):=by simp [uu,h0,hy]
   simp only [e2,if_true,z0a h0,hy,Option.bind_some,e3,w2q y x (hl y (List.mem_of_getElem? hy)) (hl x (List.mem_of_getElem? hx))]
  ·have e2:decide (0 < (k:Int))=false:=by simpa using h0
   have e3:uu l k x=false:=by simp [uu,h0]
   rw [e2,e3];simp
 have hA:decide (fdx (λy:zn=>decide (y.Key=x.App)) 0 apps < 0) = !hasA apps x.App:=z1i (λy:zn=>decide (y.Key=x.App)) apps;have hP:decide (fdx (λy:yl=>decide (y.Key=x.Product)) 0 c.Products < 0) = !hasP c x.Product:=z1i (λy:yl=>decide (y.Key=x.Product)) c.Products;unfold y06 z6p;simp only [x4m apps x.App (by have:=ha.1;omega),y76 c x.Product hb.np,Option.bind_some,hA,hP,Qm,hJ,us1];rcases Bool.eq_false_or_eq_true (hasA apps x.App) with b2|b2 <;> rcases Bool.eq_false_or_eq_true (hasP c x.Product) with b3|b3 <;> rcases Bool.eq_false_or_eq_true (outP x.Month 0 132) with b4|b4 <;> rcases Bool.eq_false_or_eq_true (outP x.Calls 0 1000000000000) with b5|b5 <;> rcases Bool.eq_false_or_eq_true (uu l k x) with b6|b6 <;> simp [b2,b3,b4,b5,b6]
theorem x8q:z94 c apps l=some (usF c apps l):=by
 unfold z94 z5y usF;rw [x05 c hb,x1l apps ha];simp only [Option.bind_some]
 by_cases h1:catF c=0
 ·have e:(if decide (catF c≠0)=true then some (catF c) else some (apF apps))=some (apF apps):=if_neg (by simpa using h1);rw [e,if_neg (not_not_intro h1)];simp only [Option.bind_some]
  by_cases h2:apF apps=0
  ·rw [if_neg (by simpa using h2),if_neg (not_not_intro h2)]
   by_cases h3:3000 < l.length
   ·rw [if_pos (by simp;omega),if_pos h3]
   ·rw [if_neg (by simp;omega),if_neg h3,if_pos (by omega)];exact z3x rfl l 0 λj x _ hx=>x8r hb ha hl h1 h2 j x (by simpa using hx)
  ·rw [if_pos (by simpa using h2),if_pos h2]
 ·have e:(if decide (catF c≠0)=true then some (catF c) else some (apF apps))=some (catF c):=if_pos (by simpa using h1);rw [e,if_pos h1];simp only [Option.bind_some];rw [if_pos (by simpa using h1)]
end
theorem x2h {c:zw} {apps:List zn} {l:List zz} (h:usF c apps l=0):l.Pairwise λx y=>orU x y < 0:=by
 unfold usF at h
 by_cases h1:catF c=0
 ·rw [if_neg (not_not_intro h1)] at h
  by_cases h2:apF apps=0
  ·rw [if_neg (not_not_intro h2)] at h
   by_cases h3:3000 < l.length
   ·rw [if_pos h3] at h;omega
   ·rw [if_neg h3] at h;refine w1w λk x hx=>?_;have:=z7j l 0 h k x hx;rw [Nat.zero_add] at this;unfold us1 at this;split at this
    ·omega
    ·split at this
     ·omega
     ·split at this
      ·omega
      ·rename_i h4;simpa using h4
  ·rw [if_pos h2] at h;exact absurd h h2
 ·rw [if_pos h1] at h;exact absurd h h1
def clU (a p:Bs) (m:Int):List zz->Option Int
 | []=>none
 | x::l=>if x.App=a/\x.Product=p/\x.Month=m then some x.Calls else clU a p m l
theorem w80 (a p:Bs) (m:Int) (l:List zz) (h:l.length<=1000000000):z5x l a p m=some ((clU a p m l).getD 0):=by
 unfold z5x;rw [if_pos h]
 have key:∀ (l:List zz) (k:Nat),forL (λ(k:Nat) (x:zz) (s:Unit)=>z6n a p m k x) (λ(s:Unit)=>y4o) k l ()=some ((clU a p m l).getD 0):=by
  intro l
  induction l with
  | nil=>intro k;rfl
  | cons x l ih =>
   intro k;show (z6n a p m k x).bind _=_;unfold z6n;rw [clU]
   by_cases hx:x.App=a/\x.Product=p/\x.Month=m
   ·rw [if_pos hx,if_pos (by simp [hx])];rfl
   ·rw [if_neg hx,if_neg (by simp;intro h1 h2 h3;exact hx ⟨h1,h2,h3⟩)];exact ih (k+1)
 exact key l 0
theorem y57 (a p:Bs) (m:Int):∀ (l:List zz) (k:Nat) (m2:List (zz×Int)),(l.Pairwise λx y=>orU x y < 0)->(∀ x,x∈l->atB x.Month/\x.App.length<=1000000/\x.Product.length<=1000000) ->
  ∃ m2',forL (λ(k:Nat) (x:zz) (s:List (zz×Int))=>z4w k x s) (λ(s:List (zz×Int))=>y27 s) k l m2=some m2'/\lkG m2' (zz.mk a p m 0)=(match clU a p m l with|some v=>some v|none=>lkG m2 (zz.mk a p m 0))
 | [],k,m2,_,_=>⟨m2,rfl,rfl⟩
 | x::l,k,m2,hr,hx=>by
  obtain⟨r1,r2⟩:=List.pairwise_cons.1 hr;obtain⟨x1,x2,x3⟩:=hx x (by simp);have x4:=x1.1;have x5:=x1.2;show ∃ m2',(z4w k x m2).bind _=_/\_;unfold z4w;rw [if_pos ⟨by omega,by omega,by omega,by omega⟩];obtain⟨m2',h1,h2⟩:=y57 a p m l (k+1) (ptG m2 (zz.mk x.App x.Product x.Month 0) x.Calls) r2 λy hy=>hx y (by simp [hy]);refine⟨m2',h1,?_⟩;rw [h2,clU,z29]
  by_cases hk:x.App=a/\x.Product=p/\x.Month=m
  ·obtain⟨rfl,rfl,rfl⟩:=hk;rw [if_pos rfl,if_pos ⟨rfl,rfl,rfl⟩]
   have hnone:clU x.App x.Product x.Month l=none:=by
    clear h1 h2 hx hr r2
    induction l with
    | nil=>rfl
    | cons y l ih =>
     rw [clU,if_neg,ih λz hz=>r1 z (by simp [hz])];rintro⟨h1,h2,h3⟩;have:=r1 y (by simp);rw [w2r h3.symm h1.symm h2.symm] at this;omega
   rw [hnone]
  ·rw [if_neg hk,if_neg (λh=>by injection h with h1 h2 h3;exact hk ⟨h1,h2,h3⟩)]
theorem w8z {l:List zz} (hr:l.Pairwise λx y=>orU x y < 0) (hx:∀ x,x∈l->atB x.Month/\x.App.length<=1000000/\x.Product.length<=1000000) (hl:l.length<=1000000) (a p:Bs) (m:Int) (ha:a.length<=1000000/\p.length<=1000000) (hm:atB m) :
  ∃ m2,Yg l=some m2/\z6a m2 (zx.mk a p) m=some ((clU a p m l).getD 0):=by
 obtain⟨m2,h1,h2⟩:=y57 a p m l 0 [] hr hx;refine⟨m2,?_,?_⟩
 ·unfold Yg;rw [if_pos (by omega)];exact h1
 ·have m1:=hm.1;have m3:=hm.2;unfold z6a;simp only;rw [if_pos ⟨by omega,by omega,by omega,by omega⟩,h2];cases clU a p m l <;> rfl
def PI (c:zw) (s:ya):Prop:=s.State≠0->hasL c s.Plan=true
theorem w7t {c:zw} {apps:List zn} {s:ya} {x:zj} (hs:PI c s) (hx:EOk c apps x):PI c (fol c s x).1:=by
 have hl:=hx.l;unfold fol folF PI at *
 generalize askP c x=a
 repeat' split
 all_goals first
  | exact hs
  | (intro _;simp only at *;first|exact hl (by assumption)|exact hs (by omega))
section
variable {c:zw} {apps:List zn} {l:List zj} {u:List zz} (hb:CB c) (ha:AB apps) (hl:∀ x,x∈l->EB x) (hu:∀ x,x∈u->atB x.Month/\x.App.length<=1000000/\x.Product.length<=1000000) (hul:u.length<=1000000)
include hb ha
include hl hu hul
end
end Go.Proofs.YtbpedjpoikmbjaaGreatDoor
