/- Plain: numbers in hexadecimal: what FormatInt and ParseInt give at base 16. -/
import Derived.Test.YtndabcepiekebaaGreatDoorTaZk
import Derived.Test.YtndabcepiekebaaGreatDoorCxZk
import Derived.Test.YtndabcepiekebaaGreatDoorRng
import Derived.Test.YtndabcepiekebaaGreatDoorYdbZk
namespace Go.Proofs.YtndabcepiekebaaGreatDoor
set_option linter.unusedVariables false
set_option linter.unusedSimpArgs false
set_option linter.unusedSectionVars false
set_option maxRecDepth 20000
section
variable {σ ρ:Type}
theorem rng3 {body:Nat→σ→Option (σ ⊕ ρ)} {fin:σ→Option ρ} {a b c d:σ} (h0:body 0 a=some (.inl b)) (h1:body 1 b=some (.inl c)) (h2:body 2 c=some (.inl d)):rng body fin 3 0 a=fin d:=by
 show (body 0 a).bind _=_
 rw [h0]
 show (body 1 b).bind _=_
 rw [h1]
 show (body 2 c).bind _=_
 rw [h2]; rfl
theorem rng4 {body:Nat→σ→Option (σ ⊕ ρ)} {fin:σ→Option ρ} {a b c d e:σ} (h0:body 0 a=some (.inl b)) (h1:body 1 b=some (.inl c)) (h2:body 2 c=some (.inl d)) (h3:body 3 d=some (.inl e)):rng body fin 4 0 a=fin e:=by
 show (body 0 a).bind _=_
 rw [h0]
 show (body 1 b).bind _=_
 rw [h1]
 show (body 2 c).bind _=_
 rw [h2]
 show (body 3 d).bind _=_
 rw [h3]; rfl
end
def yz:Nat→Nat→Bs
 | 0,_=>[]
 | n+1,m=>yz n (m / 2)++[if m % 2=1 then 49 else 48]
theorem vt:∀ n m,(yz n m).length=n
 | 0,m=>rfl
 | n+1,m=>by simp [yz,vt n]
theorem fmt2 (n:Int) (r:Bs) (hn:decide (n < 0)=false) (h:itN (fun (s:Int×Int×(List Int))=>z2g 2 false false 1 s.1 s.2.1 s.2.2) 12 (IntKind.wrap .u64 n,65,(List.replicate 65 0))=some ([],r)):Wx n 2=some r:=by
 unfold Wx y4d z5d z6b z9j
 rw [hn]
 have htz:z5s (IntKind.wrap .u64 2)=some 1:=by decide +kernel
 have hp:decide (and_ .i64 2 (wr (2 - 1))=0)=true:=by decide +kernel
 have hi:=z0f.2 ⟨12,h⟩
 simp only [hp,Option.bind_some,if_true,htz,hi,show decide ((2:Int)=10)=false from rfl,show decide ((2:Int) < 2)=false from rfl,show decide ((36:Int) < 2)=false from rfl,Bool.or_self,Bool.false_eq_true,if_false]
theorem w6z (c:UInt8):Wx (wr (256+(IntKind.wrap .i64 (c.toNat:Int)))) 2=some (49::yz 8 c.toNat):=by
 refine fmt2 _ _ ?_ ?_
 ·have:=xl (fun c => !decide (wr (256+(IntKind.wrap .i64 (c.toNat:Int))) < 0)) (by decide +kernel) c
  simpa using this
 ·have:=xl (fun c=>decide (itN (fun (s:Int×Int×(List Int))=>z2g 2 false false 1 s.1 s.2.1 s.2.2) 12 (IntKind.wrap .u64 (wr (256+(IntKind.wrap .i64 (c.toNat:Int)))),65,(List.replicate 65 0))=some ([],49::yz 8 c.toNat))) (by decide +kernel) c
  exact of_decide_eq_true this
theorem w6y (v:Nat) (h:v < 64):Wx (wr (64+(v:Int))) 2=some (49::yz 6 v):=by
 refine fmt2 _ _ ?_ ?_
 ·have:∀ v,v < 64→decide (wr (64+((v:Nat):Int)) < 0)=false:=by decide +kernel
  exact this v h
 ·have:∀ v,v < 64→itN (fun (s:Int×Int×(List Int))=>z2g 2 false false 1 s.1 s.2.1 s.2.2) 12 (IntKind.wrap .u64 (wr (64+((v:Nat):Int))),65,(List.replicate 65 0))=some ([],49::yz 6 v):=by decide +kernel
  exact this v h
theorem w1r (v:Nat) (h:v < 64):Wv (yz 6 v) 2 64=some ((v:Int),0):=by
 have:∀ v,v < 64→Wv (yz 6 v) 2 64=some (((v:Nat):Int),0):=by decide +kernel
 exact this v h
theorem w1s (v:Nat) (h:v < 256):Wv (yz 8 v) 2 64=some ((v:Int),0):=by
 have:∀ v,v < 256→Wv (yz 8 v) 2 64=some (((v:Nat):Int),0):=by decide +kernel
 exact this v h
theorem s62:∀ a,a < 256→yz 8 a=yz 6 (a / 4)++yz 2 (a % 4):=by decide +kernel
theorem s44:∀ a,a < 256→yz 8 a=yz 4 (a / 16)++yz 4 (a % 16):=by decide +kernel
theorem s26:∀ a,a < 256→yz 8 a=yz 2 (a / 64)++yz 6 (a % 64):=by decide +kernel
theorem j24:∀ a,a < 4→∀ b,b < 16→yz 2 a++yz 4 b=yz 6 (a * 16+b):=by decide +kernel
theorem j42:∀ a,a < 16→∀ b,b < 4→yz 4 a++yz 2 b=yz 6 (a * 4+b):=by decide +kernel
theorem j20:∀ a,a < 4→yz 2 a++[48,48,48,48]=yz 6 (a * 16):=by decide +kernel
theorem j40:∀ a,a < 16→yz 4 a++[48,48]=yz 6 (a * 4):=by decide +kernel
theorem t24:∀ a,a < 64→yz 6 a=yz 2 (a / 16)++yz 4 (a % 16):=by decide +kernel
theorem t42:∀ a,a < 64→yz 6 a=yz 4 (a / 4)++yz 2 (a % 4):=by decide +kernel
theorem i62:∀ a,a < 64→∀ b,b < 4→yz 6 a++yz 2 b=yz 8 (a * 4+b):=by decide +kernel
theorem i44:∀ a,a < 16→∀ b,b < 16→yz 4 a++yz 4 b=yz 8 (a * 16+b):=by decide +kernel
theorem i26:∀ a,a < 4→∀ b,b < 64→yz 2 a++yz 6 b=yz 8 (a * 64+b):=by decide +kernel
abbrev abc:Bs:=[65,66,67,68,69,70,71,72,73,74,75,76,77,78,79,80,81,82,83,84,85,86,87,88,89,90,97,98,99,100,101,102,103,104,105,106,107,108,109,110,111,112,113,114,115,116,117,118,119,120,121,122,48,49,50,51,52,53,54,55,56,57,45,95]
def sgn (v:Nat):UInt8:=abc.getD v 0
theorem w8z (v:Nat) (h:v < 64):at? abc (v:Int)=some (sgn v):=by
 rw [Qt]
 have h1:v < abc.length:=h
 rw [List.getElem?_eq_getElem h1]
 unfold sgn
 rw [List.getD_eq_getElem?_getD,List.getElem?_eq_getElem h1]; rfl
theorem x8l (v:Nat) (h:v < 64):sub? abc (v:Int) (wr ((v:Int)+1))=some [sgn v]:=by
 have:∀ v,v < 64→sub? abc ((v:Nat):Int) (wr (((v:Nat):Int)+1))=some [sgn v]:=by decide +kernel
 exact this v h
theorem i64w {n:Nat} (h:n≤1000000000000):IntKind.wrap .i64 (n:Int)=(n:Int):=IntWalk.i64_in _ (by omega)
theorem y28 (x k:Nat) (hk:k≤16) (h:x≤1000000):shl_ .i64 (x:Int) (k:Int)=((x * 2 ^ k:Nat):Int):=by
 show IntKind.wrap .i64 ((x:Int) * 2 ^ (min (k:Int).toNat IntKind.i64.bits))=_
 have e1:min (k:Int).toNat IntKind.i64.bits=k:=by
  have:IntKind.i64.bits=64:=rfl
  rw [this]; omega
 rw [e1]
 have e2:((x:Int) * 2 ^ k)=((x * 2 ^ k:Nat):Int):=by push_cast; rfl
 rw [e2]
 refine i64w ?_
 have h1:2 ^ k≤2 ^ 16:=Nat.pow_le_pow_right (by decide) hk
 have h2:=Nat.mul_le_mul h h1
 omega
theorem x1n (x k:Nat) (hk:k≤24):shr_ .i64 (x:Int) (k:Int)=((x / 2 ^ k:Nat):Int):=by
 show (x:Int).fdiv (2 ^ (min (k:Int).toNat IntKind.i64.bits))=_
 have e1:min (k:Int).toNat IntKind.i64.bits=k:=by
  have:IntKind.i64.bits=64:=rfl
  rw [this]; omega
 rw [e1,Int.fdiv_eq_ediv_of_nonneg _ (Int.le_of_lt (Int.pow_pos (by decide)))]
 push_cast; rfl
theorem x2r (a b k:Nat) (hb:b < 2 ^ k) (h:a * 2 ^ k+b≤1000000000000):or_ .i64 ((a * 2 ^ k:Nat):Int) (b:Int)=((a * 2 ^ k+b:Nat):Int):=by
 show IntKind.wrap .i64 (((BitVec.ofInt IntKind.i64.bits ((a * 2 ^ k:Nat):Int) ||| BitVec.ofInt IntKind.i64.bits (b:Int)).toNat:Nat):Int)=_
 have hbits:IntKind.i64.bits=64:=rfl
 rw [hbits,BitVec.ofInt_natCast,BitVec.ofInt_natCast,BitVec.toNat_or,BitVec.toNat_ofNat,BitVec.toNat_ofNat,Nat.mod_eq_of_lt (by omega),Nat.mod_eq_of_lt (by omega),Nat.mul_comm a,← Nat.two_pow_add_eq_or_of_lt hb,Nat.mul_comm]
 exact i64w h
theorem w84 (x:Nat) (h:x≤1000000000000):and_ .i64 (x:Int) 63=((x % 64:Nat):Int):=by
 show IntKind.wrap .i64 (((BitVec.ofInt IntKind.i64.bits (x:Int) &&& BitVec.ofInt IntKind.i64.bits ((63:Nat):Int)).toNat:Nat):Int)=_
 have hbits:IntKind.i64.bits=64:=rfl
 rw [hbits,BitVec.ofInt_natCast,BitVec.ofInt_natCast,BitVec.toNat_and,BitVec.toNat_ofNat,BitVec.toNat_ofNat,Nat.mod_eq_of_lt (by omega),Nat.mod_eq_of_lt (by omega),show 63=2 ^ 6 - 1 from rfl,Nat.and_two_pow_sub_one_eq_mod]
 exact i64w (by omega)
def encP:Bs→Bs
 | []=>[]
 | [a]=>[sgn (a.toNat / 4),sgn (a.toNat % 4 * 16)]
 | [a,b]=>[sgn (a.toNat / 4),sgn (a.toNat % 4 * 16+b.toNat / 16),sgn (b.toNat % 16 * 4)]
 | a::b::c::r=>sgn (a.toNat / 4)::sgn (a.toNat % 4 * 16+b.toNat / 16)::sgn (b.toNat % 16 * 4+c.toNat / 64)::sgn (c.toNat % 64)::encP r
theorem y52:∀ s,(encP s).length≤2 * s.length
 | []=>by simp [encP]
 | [a]=>by simp [encP]
 | [a,b]=>by simp [encP]
 | a::b::c::r=>by have:=y52 r; simp only [encP,List.length_cons]; omega
theorem z69 (s:Bs) (k x:Nat) (c:UInt8) (hx:x < 65536) (h:s[k]?=some c) (hk:k < 3):Zy s k (x:Int)=some (.inl ((x * 256+c.toNat:Nat):Int)):=by
 have h1:=jw h
 have hc:=c.toNat_lt
 unfold Zy z07
 rw [if_pos (by simp; omega),h]
 simp only [Option.bind_some]
 rw [i64w (by omega),show ((8:Int))=((8:Nat):Int) from rfl,y28 x 8 (by omega) (by omega),x2r x c.toNat 8 (by omega) (by omega)]
theorem y9e (s:Bs) (k x:Nat) (hx:x < 65536) (h:s.length≤k):Zy s k (x:Int)=some (.inl ((x * 256:Nat):Int)):=by
 unfold Zy z07
 rw [if_neg (by simp; omega),show ((8:Int))=((8:Nat):Int) from rfl,y28 x 8 (by omega) (by omega)]
theorem w7e (x k:Nat) (l:List Int) (hx:x < 16777216) (hk:k≤3) (hl:l.length+1≤1000000000):z06 (x:Int) k l=some (.inl (l++vd [sgn (x / 2 ^ (18 - 6 * k) % 64)])):=by
 unfold z06
 have e1:wr (18 - wr (6 * (k:Int)))=((18 - 6 * k:Nat):Int):=by
  rw [vh (n:=6 * (k:Int)) (by omega),vh (by omega)]; omega
 have h2:x / 2 ^ (18 - 6 * k)≤x:=Nat.div_le_self _ _
 rw [e1,if_pos (by omega),x1n x _ (by omega),w84 _ (by omega),w8z _ (Nat.mod_lt _ (by decide))]
 simp only [Option.bind_some]
 rw [if_pos hl]
 rfl
def four (x:Nat):Nat→Bs:=fun n=>(List.range n).map fun k=>sgn (x / 2 ^ (18 - 6 * k) % 64)
theorem y9g (s:Bs) (l:List Int) (x n:Nat) (hn:n=min 3 s.length+1) (hx:x < 16777216) (hl:l.length+4≤1000000000) :
  z7t s l (x:Int)=some (.inl (s.drop (min 3 s.length),l++vd (four x n))):=by
 unfold z7t
 have e1:wr (min 3 (s.length:Int)+1)=(n:Int):=by rw [vh (by omega)]; omega
 rw [e1,if_pos (by omega),Int.toNat_natCast]
 have hE:∀ q:List Int,z08 s q=some (.inl (s.drop (min 3 s.length),q)):=by
  intro q
  unfold z08 sub?
  rw [if_pos (by omega)]
  simp only [Option.bind_some]
  congr 3
  rw [List.take_of_length_le (by simp only [List.length_drop]; omega)]
  congr 1; omega
 have key:∀ m k (q:List Int),k+m≤4→q.length+m≤1000000000→rng (fun (k:Nat) (s:(List Int))=>z06 (x:Int) k s) (fun (q:(List Int))=>z08 s q) m k q=some (.inl (s.drop (min 3 s.length),q++vd ((List.range' k m).map fun k=>sgn (x / 2 ^ (18 - 6 * k) % 64)))):=by
  intro m
  induction m with
  | zero=>intro k q _ _; show z08 s q=_; rw [hE]; simp [vd]
  | succ m ih =>
   intro k q hk hq
   show (z06 (x:Int) k q).bind _=_
   rw [w7e x k q hx (by omega) (by omega)]
   simp only [Option.bind_some,after]
   rw [ih (k+1) _ (by omega) (by simp [vd]; omega)]
   simp only [vd,List.range'_succ,List.map_cons,List.append_assoc,List.map_nil,List.cons_append,List.nil_append]
 rw [key n 0 l (by omega) (by omega)]
 unfold four
 rw [List.range_eq_range']
theorem w7d (a b c:UInt8) (r:Bs) (l:List Int) (hl:l.length+4≤1000000000):kg (a::b::c::r) l=some (.inl (r,l++vd [sgn (a.toNat / 4),sgn (a.toNat % 4 * 16+b.toNat / 16),sgn (b.toNat % 16 * 4+c.toNat / 64),sgn (c.toNat % 64)])):=by
 have ha:=a.toNat_lt
 have hb:=b.toNat_lt
 have hc:=c.toNat_lt
 unfold kg
 rw [if_pos (by simp; omega),if_pos (by decide)]
 show rng _ _ 3 0 ((0:Nat):Int)=_
 rw [rng3 (body:=fun (k:Nat) (s:Int)=>Zy (a::b::c::r) k s) (z69 _ 0 0 a (by omega) rfl (by omega)) (z69 _ 1 _ b (by omega) rfl (by omega)) (z69 _ 2 _ c (by omega) rfl (by omega))]
 have hm:min 3 (a::b::c::r).length=3:=by simp only [List.length_cons]; omega
 rw [y9g _ l _ 4 (by omega) (by omega) hl,hm]
 have e:four (((0 * 256+a.toNat) * 256+b.toNat) * 256+c.toNat) 4=[sgn (a.toNat / 4),sgn (a.toNat % 4 * 16+b.toNat / 16),sgn (b.toNat % 16 * 4+c.toNat / 64),sgn (c.toNat % 64)]:=by
  show [sgn (_ / 262144 % 64),sgn (_ / 4096 % 64),sgn (_ / 64 % 64),sgn (_ / 1 % 64)]=_
  congr 1
  ·congr 1; omega
  congr 1
  ·congr 1; omega
  congr 1
  ·congr 1; omega
  congr 1
  congr 1; omega
 rw [e]; rfl
theorem w7c (a b:UInt8) (l:List Int) (hl:l.length+4≤1000000000):kg [a,b] l=some (.inl ([],l++vd [sgn (a.toNat / 4),sgn (a.toNat % 4 * 16+b.toNat / 16),sgn (b.toNat % 16 * 4)])):=by
 have ha:=a.toNat_lt
 have hb:=b.toNat_lt
 unfold kg
 rw [if_pos (by simp),if_pos (by decide)]
 show rng _ _ 3 0 ((0:Nat):Int)=_
 rw [rng3 (body:=fun (k:Nat) (s:Int)=>Zy [a,b] k s) (z69 _ 0 0 a (by omega) rfl (by omega)) (z69 _ 1 _ b (by omega) rfl (by omega)) (y9e _ 2 _ (by omega) (by simp))]
 rw [y9g _ l _ 3 (by simp) (by omega) hl]
 have e:four (((0 * 256+a.toNat) * 256+b.toNat) * 256) 3=[sgn (a.toNat / 4),sgn (a.toNat % 4 * 16+b.toNat / 16),sgn (b.toNat % 16 * 4)]:=by
  show [sgn (_ / 262144 % 64),sgn (_ / 4096 % 64),sgn (_ / 64 % 64)]=_
  congr 1
  ·congr 1; omega
  congr 1
  ·congr 1; omega
  congr 1
  congr 1; omega
 rw [e,List.drop_eq_nil_of_le (by simp)]
theorem w7f (a:UInt8) (l:List Int) (hl:l.length+4≤1000000000):kg [a] l=some (.inl ([],l++vd [sgn (a.toNat / 4),sgn (a.toNat % 4 * 16)])):=by
 have ha:=a.toNat_lt
 unfold kg
 rw [if_pos (by simp),if_pos (by decide)]
 show rng _ _ 3 0 ((0:Nat):Int)=_
 rw [rng3 (body:=fun (k:Nat) (s:Int)=>Zy [a] k s) (z69 _ 0 0 a (by omega) rfl (by omega)) (y9e _ 1 _ (by omega) (by simp)) (y9e _ 2 _ (by omega) (by simp))]
 rw [y9g _ l _ 2 (by simp) (by omega) hl]
 have e:four (((0 * 256+a.toNat) * 256) * 256) 2=[sgn (a.toNat / 4),sgn (a.toNat % 4 * 16)]:=by
  show [sgn (_ / 262144 % 64),sgn (_ / 4096 % 64)]=_
  congr 1
  ·congr 1; omega
  congr 1
  congr 1; omega
 rw [e,List.drop_eq_nil_of_le (by simp)]
theorem y9f (l:List Int):kg [] l=some (.inr (strN l)):=by
 unfold kg z7s
 rw [if_neg (by simp)]; rfl
theorem encI:∀ (s:Bs) (l:List Int),l.length+2 * s.length+4≤1000000000→iter (fun (s:Bs×(List Int))=>kg s.1 s.2) (s,l)=some (strN (l++vd (encP s)))
 | [],l,h=>by rw [xe (body:=fun (s:Bs×(List Int))=>kg s.1 s.2) (s:=([],_)) (y9f l)]; simp [encP,vd]
 | [a],l,h=>by rw [js (body:=fun (s:Bs×(List Int))=>kg s.1 s.2) (s:=([a],l)) (w7f a l (by omega)),xe (body:=fun (s:Bs×(List Int))=>kg s.1 s.2) (s:=([],_)) (y9f _)]; simp [encP,vd]
 | [a,b],l,h=>by rw [js (body:=fun (s:Bs×(List Int))=>kg s.1 s.2) (s:=([a,b],l)) (w7c a b l (by omega)),xe (body:=fun (s:Bs×(List Int))=>kg s.1 s.2) (s:=([],_)) (y9f _)]; simp [encP,vd]
 | a::b::c::r,l,h=>by
  simp only [List.length_cons] at h
  rw [js (body:=fun (s:Bs×(List Int))=>kg s.1 s.2) (s:=(a::b::c::r,l)) (w7d a b c r l (by omega)),encI r _ (by simp [vd]; omega)]
  simp [encP,vd]
theorem w7b (s:Bs) (h:s.length≤100000000):Ws s=some (encP s):=by
 unfold Ws
 rw [encI s [] (by simp only [List.length_nil]; omega),List.nil_append,x8q]
theorem y9d (q:Bs) (out:Bs) (v:Nat) (hv:v < 64) (hq:q≠[]) (hlen:q.length≤1000000000) (hb:q.take 6++([48,48,48,48,48,48]:Bs).drop (min 6 q.length)=yz 6 v) (ho:out.length+1≤1000000000) :
  xf q out=some (.inl (q.drop 6,out++[sgn v])):=by
 unfold xf
 rw [if_pos (by simpa using hq)]
 have hm:min 6 (q.length:Int)=((min 6 q.length:Nat):Int):=by omega
 rw [hm,z4d q _ (by omega)]
 have e2:∀ z:Int,z=6→sub? ([48,48,48,48,48,48]:Bs) ((min 6 q.length:Nat):Int) z=some (([48,48,48,48,48,48]:Bs).drop (min 6 q.length)):=by
  intro z hz
  subst hz
  unfold sub?
  rw [if_pos (by simp; omega),List.take_of_length_le (by simp)]
  simp only [Int.toNat_natCast]
 have e3:sub? q ((min 6 q.length:Nat):Int) (q.length:Int)=some (q.drop 6):=by
  unfold sub?
  rw [if_pos (by omega),List.take_of_length_le (by simp)]
  simp only [Int.toNat_natCast]
  by_cases h6:q.length≤6
  ·rw [List.drop_eq_nil_of_le (show q.length≤6 from h6),List.drop_eq_nil_of_le (by omega)]
  ·rw [show min 6 q.length=6 by omega]
 have e4:q.take (min 6 q.length)=q.take 6:=by
  by_cases h6:q.length≤6
  ·rw [List.take_of_length_le (by omega),List.take_of_length_le h6]
  ·rw [show min 6 q.length=6 by omega]
 rw [e4]
 simp only [Option.bind_some]
 rw [e2]
 rotate_left
 ·rfl
 simp only [Option.bind_some]
 rw [if_pos (by simp; omega),hb,w1r v hv]
 simp only [Option.bind_some]
 rw [x8l v hv]
 simp only [Option.bind_some]
 rw [if_pos (by simpa using ho),e3]
 rfl
theorem z3l (v:Nat) (r out:Bs) (hv:v < 64) (hlen:r.length+6≤1000000000) (ho:out.length+1≤1000000000):xf (yz 6 v++r) out=some (.inl (r,out++[sgn v])):=by
 have hl:=vt 6 v
 rw [y9d (yz 6 v++r) out v hv (by intro h; rw [List.append_eq_nil_iff] at h; rw [h.1] at hl; simp at hl) (by simp [hl]; omega) (by
  rw [show min 6 (yz 6 v++r).length=6 by simp [hl],List.take_append_of_le_length (by omega),List.take_of_length_le (by omega)]; simp) ho]
 rw [List.drop_append_of_le_length (by omega),List.drop_eq_nil_of_le (by omega)]; rfl
def uy (s:Bs):Bs:=s.flatMap fun c=>yz 8 c.toNat
theorem w86 (s:Bs):(uy s).length=8 * s.length:=by
 induction s with
 | nil=>rfl
 | cons c s ih=>unfold uy at ih ⊢; rw [List.flatMap_cons,List.length_append,vt,ih,List.length_cons]; omega
theorem x5y:∀ (s out:Bs),out.length+8 * s.length+10≤1000000000→iter (fun (s:Bs×Bs)=>xf s.1 s.2) (uy s,out)=some (out++encP s)
 | [],out,h=>by
  refine xe (s:=(uy [],out)) ?_
  show xf [] out=_
  unfold xf z2w
  rw [if_neg (by simp)]
  simp [encP]
 | [a],out,h=>by
  have ha:=a.toNat_lt
  simp only [List.length_cons,List.length_nil] at h
  have e:uy [a]=yz 6 (a.toNat / 4)++yz 2 (a.toNat % 4):=by
   unfold uy
   simp only [List.flatMap_cons,List.flatMap_nil,List.append_nil]
   exact s62 _ (by omega)
  rw [e,js (z3l _ _ out (by omega) (by simp [vt]) (by omega)),js (y9d _ _ (a.toNat % 4 * 16) (by omega) (fun h=>by have:=vt 2 (a.toNat % 4); rw [show yz 2 (a.toNat % 4)=[] from h] at this; cases this) (by simp [vt]) (by
   rw [List.take_of_length_le (by simp [vt]),vt]; exact j20 _ (by omega)) (by simp; omega)),List.drop_eq_nil_of_le (by simp [vt])]
  rw [xe (s:=(([]:Bs),_)) (by
   show xf [] _=_
   unfold xf z2w
   rw [if_neg (by simp)]; rfl)]
  simp [encP]
 | [a,b],out,h=>by
  have ha:=a.toNat_lt
  have hb:=b.toNat_lt
  simp only [List.length_cons,List.length_nil] at h
  have e:uy [a,b]=yz 6 (a.toNat / 4)++(yz 6 (a.toNat % 4 * 16+b.toNat / 16)++yz 4 (b.toNat % 16)):=by
   unfold uy
   simp only [List.flatMap_cons,List.flatMap_nil,List.append_nil]
   rw [s62 a.toNat (by omega),s44 b.toNat (by omega),← j24 (a.toNat % 4) (by omega) (b.toNat / 16) (by omega)]
   simp only [List.append_assoc]
  rw [e,js (z3l _ _ out (by omega) (by simp [vt]) (by omega)),js (z3l _ _ _ (by omega) (by simp [vt]) (by simp; omega)),js (y9d _ _ (b.toNat % 16 * 4) (by omega) (fun h=>by have:=vt 4 (b.toNat % 16); rw [show yz 4 (b.toNat % 16)=[] from h] at this; cases this) (by simp [vt]) (by
   rw [List.take_of_length_le (by simp [vt]),vt]; exact j40 _ (by omega)) (by simp; omega)),List.drop_eq_nil_of_le (by simp [vt])]
  rw [xe (s:=(([]:Bs),_)) (by
   show xf [] _=_
   unfold xf z2w
   rw [if_neg (by simp)]; rfl)]
  simp [encP]
 | a::b::c::r,out,h=>by
  have ha:=a.toNat_lt
  have hb:=b.toNat_lt
  have hc:=c.toNat_lt
  have hr:=w86 r
  simp only [List.length_cons] at h
  have e:uy (a::b::c::r)=yz 6 (a.toNat / 4)++(yz 6 (a.toNat % 4 * 16+b.toNat / 16)++(yz 6 (b.toNat % 16 * 4+c.toNat / 64)++(yz 6 (c.toNat % 64)++uy r))):=by
   unfold uy
   simp only [List.flatMap_cons]
   rw [s62 a.toNat (by omega),s44 b.toNat (by omega),s26 c.toNat (by omega),← j24 (a.toNat % 4) (by omega) (b.toNat / 16) (by omega),← j42 (b.toNat % 16) (by omega) (c.toNat / 64) (by omega)]
   simp only [List.append_assoc]
  rw [e,js (z3l _ _ out (by omega) (by simp [vt]; omega) (by omega)),js (z3l _ _ _ (by omega) (by simp [vt]; omega) (by simp; omega)),js (z3l _ _ _ (by omega) (by simp [vt]; omega) (by simp; omega)),js (z3l _ _ _ (by omega) (by omega) (by simp; omega)),x5y r _ (by simp; omega)]
  simp [encP]
theorem y51 (s:Bs) (h:s.length≤100000000):z0c s=some (encP s):=by
 unfold z0c
 rw [if_pos (by omega)]
 have key:∀ (l:Bs) (k:Nat) (bs:Bs),bs.length+8 * l.length≤1000000000→forL (fun (k:Nat) (x:UInt8) (s:Bs)=>z2v k x s) (fun (s:Bs)=>z2x s) k l bs=z2x (bs++uy l):=by
  intro l
  induction l with
  | nil=>intro k bs _; show z2x bs=_; simp [uy]
  | cons c l ih =>
   intro k bs hl
   simp only [List.length_cons] at hl
   have e1:sub? (49::yz 8 c.toNat) 1 ((49::yz 8 c.toNat).length:Int)=some (yz 8 c.toNat):=by
    unfold sub?
    rw [if_pos (by simp [vt]),List.take_of_length_le (by simp)]
    rfl
   have e2:z2v k c bs=some (.inl (bs++yz 8 c.toNat)):=by
    unfold z2v
    rw [w6z c]
    simp only [Option.bind_some,e1]
    rw [if_pos (by rw [vt]; omega)]
   show (z2v k c bs).bind _=_
   rw [e2]
   simp only [Option.bind_some,after]
   rw [ih (k+1) _ (by simp only [List.length_append,vt]; omega)]
   congr 1
   unfold uy
   rw [List.flatMap_cons,List.append_assoc]
 rw [key s 0 [] (by simp only [List.length_nil]; omega),List.nil_append]
 unfold z2x
 rw [x5y s [] (by simp only [List.length_nil]; omega)]; rfl

def ix (c:UInt8):Int:=Lib.indexByte abc c
def iv (c:UInt8):Nat:=(ix c).toNat
theorem w5y (c:UInt8):ix c < 0∨(ix c=(iv c:Int)∧iv c < 64):=by
 have:=xl (fun c=>decide (ix c < 0∨(ix c=(iv c:Int)∧iv c < 64))) (by decide +kernel) c
 exact of_decide_eq_true this
def gdB (c:UInt8):Bool:=decide (0≤ix c)
theorem gd_t {c:UInt8} (h:gdB c=true):ix c=(iv c:Int)∧iv c < 64:=by
 unfold gdB at h
 have h:=of_decide_eq_true h
 rcases w5y c with h1 | h1
 ·omega
 ·exact h1
theorem gd_f {c:UInt8} (h:gdB c=false):ix c < 0:=by
 unfold gdB at h
 have h:=of_decide_eq_false h
 omega
theorem y42 (c:UInt8):Wu abc (c.toNat:Int)=some (ix c):=by
 unfold Wu ix
 simp
def decP:List Nat→List Nat
 | []=>[]
 | [a]=>[]
 | [a,b]=>[a * 4+b / 16]
 | [a,b,c]=>[a * 4+b / 16,b % 16 * 16+c / 4]
 | a::b::c::d::r=>(a * 4+b / 16)::(b % 16 * 16+c / 4)::(c % 4 * 64+d)::decP r
theorem y1h:∀ s,(decP s).length≤s.length
 | []=>by simp [decP]
 | [a]=>by simp [decP]
 | [a,b]=>by simp [decP]
 | [a,b,c]=>by simp [decP]
 | a::b::c::d::r=>by have:=y1h r; simp only [decP,List.length_cons]; omega
def nI (l:List Nat):List Int:=l.map fun n:Nat=>(n:Int)
theorem x7q {n:Nat} (h:n < 256):IntKind.wrap .u8 (n:Int)=(n:Int):=by
 unfold IntKind.wrap
 simp [IntKind.bits,IntKind.signed]
 omega
theorem jz (s:Bs) (k x:Nat) (c:UInt8) (hx:x < 262144) (h:s[k]?=some c) (hk:k < 4) (hg:gdB c=true):uk s k (x:Int)=some (.inl ((x * 64+iv c:Nat):Int)):=by
 have h1:=jw h
 obtain ⟨h2,h3⟩:=gd_t hg
 unfold uk Wl
 rw [if_pos (by simp; omega),h]
 simp only [Option.bind_some]
 rw [y42]
 simp only [Option.bind_some]
 rw [if_neg (by simp; omega),h2,show ((6:Int))=((6:Nat):Int) from rfl,y28 x 6 (by omega) (by omega),x2r x (iv c) 6 (by omega) (by omega)]
theorem Ym (s:Bs) (k:Nat) (x:Int) (c:UInt8) (h:s[k]?=some c) (hk:k < 4) (hg:gdB c=false):uk s k x=some (.inr (.inr ([],9))):=by
 have h1:=jw h
 have h2:=gd_f hg
 unfold uk Wl
 rw [if_pos (by simp; omega),h]
 simp only [Option.bind_some]
 rw [y42]
 simp only [Option.bind_some]
 rw [if_pos (by simp; omega)]
theorem z7c (s:Bs) (k x:Nat) (hx:x < 262144) (h:s.length≤k):uk s k (x:Int)=some (.inl ((x * 64:Nat):Int)):=by
 unfold uk Wl
 rw [if_neg (by simp; omega),show ((6:Int))=((6:Nat):Int) from rfl,y28 x 6 (by omega) (by omega)]
theorem w7p (x k:Nat) (l:List Int) (hx:x < 16777216) (hk:k≤2) (hl:l.length+1≤1000000000):z09 (x:Int) k l=some (.inl (l++nI [x / 2 ^ (16 - 8 * k) % 256])):=by
 unfold z09
 have e1:wr (16 - wr (8 * (k:Int)))=((16 - 8 * k:Nat):Int):=by
  rw [vh (n:=8 * (k:Int)) (by omega),vh (by omega)]; omega
 rw [e1,if_pos (by omega),if_pos hl,x1n x _ (by omega)]
 have e2:IntKind.wrap .u8 ((x / 2 ^ (16 - 8 * k):Nat):Int)=((x / 2 ^ (16 - 8 * k) % 256:Nat):Int):=by
  unfold IntKind.wrap
  simp [IntKind.bits,IntKind.signed]
 rw [e2]; rfl
def z7w (x:Nat):Nat→List Nat:=fun n=>(List.range n).map fun k=>x / 2 ^ (16 - 8 * k) % 256
theorem y55 (s:Bs) (l:List Int) (x n:Nat) (hn:n+1=min 4 s.length) (hx:x < 16777216) (hl:l.length+4≤1000000000) :
  z7u s l (x:Int)=some (.inl (s.drop (min 4 s.length),l++nI (z7w x n))):=by
 unfold z7u
 have e1:wr (min 4 (s.length:Int) - 1)=(n:Int):=by rw [vh (by omega)]; omega
 rw [e1,if_pos (by omega),Int.toNat_natCast]
 have hE:∀ q:List Int,z1b s q=some (.inl (s.drop (min 4 s.length),q)):=by
  intro q
  unfold z1b sub?
  rw [if_pos (by omega)]
  simp only [Option.bind_some]
  congr 3
  rw [List.take_of_length_le (by simp only [List.length_drop]; omega)]
  congr 1; omega
 have key:∀ m k (q:List Int),k+m≤3→q.length+m≤1000000000→rng (fun (k:Nat) (s:(List Int))=>z09 (x:Int) k s) (fun (q:(List Int))=>z1b s q) m k q=some (.inl (s.drop (min 4 s.length),q++nI ((List.range' k m).map fun k=>x / 2 ^ (16 - 8 * k) % 256))):=by
  intro m
  induction m with
  | zero=>intro k q _ _; show z1b s q=_; rw [hE]; simp [nI]
  | succ m ih =>
   intro k q hk hq
   show (z09 (x:Int) k q).bind _=_
   rw [w7p x k q hx (by omega) (by omega)]
   simp only [Option.bind_some,after]
   rw [ih (k+1) _ (by omega) (by simp [nI]; omega)]
   simp only [nI,List.range'_succ,List.map_cons,List.append_assoc,List.map_nil,List.cons_append,List.nil_append]
 rw [key n 0 l (by omega) (by omega)]
 unfold z7w
 rw [List.range_eq_range']
theorem Yc {σ ρ:Type} {body:Nat→σ→Option (σ ⊕ ρ)} {fin:σ→Option ρ} {a:σ} {r:ρ} (h:body 0 a=some (.inr r)∨∃ b,body 0 a=some (.inl b)∧(body 1 b=some (.inr r)∨∃ c,body 1 b=some (.inl c)∧(body 2 c=some (.inr r)∨∃ d,body 2 c=some (.inl d)∧body 3 d=some (.inr r)))):rng body fin 4 0 a=some r:=by
 show (body 0 a).bind _=_
 rcases h with h | ⟨b,h0,h⟩
 ·rw [h]; rfl
 rw [h0]
 show (body 1 b).bind _=_
 rcases h with h | ⟨c,h1,h⟩
 ·rw [h]; rfl
 rw [h1]
 show (body 2 c).bind _=_
 rcases h with h | ⟨d,h2,h⟩
 ·rw [h]; rfl
 rw [h2]
 show (body 3 d).bind _=_
 rw [h]; rfl
theorem w7o (s0 s:Bs) (l:List Int) (hs:s≠[]) (hl:l.length+4≤1000000000) :
  Zz s0 s l=if (s.take 4).all gdB then some (.inl (s.drop 4,l++nI (decP ((s.take 4).map iv)))) else some (.inr ([],9)):=by
 unfold Zz
 have hp:0 < s.length:=by cases s with | nil=>exact absurd rfl hs | cons _ _=>simp
 rw [if_pos (by simp; omega),if_pos (by decide)]
 show rng (fun (k:Nat) (q:Int)=>uk s k q) _ 4 0 ((0:Nat):Int)=_
 have drop4:s.drop (min 4 s.length)=s.drop 4:=by
  by_cases h6:s.length≤4
  ·rw [List.drop_eq_nil_of_le h6,List.drop_eq_nil_of_le (by omega)]
  ·rw [show min 4 s.length=4 by omega]
 match s,hs with
 | [a],_ =>
  cases ga:gdB a
  ·rw [if_neg (by simp [ga])]
   exact Yc (.inl (Ym _ 0 _ a rfl (by omega) ga))
  ·obtain ⟨_,ha⟩:=gd_t ga
   rw [if_pos (by simp [ga]),rng4 (body:=fun (k:Nat) (q:Int)=>uk [a] k q) (jz _ 0 0 a (by omega) rfl (by omega) ga) (z7c _ 1 _ (by omega) (by simp)) (z7c _ 2 _ (by omega) (by simp)) (z7c _ 3 _ (by omega) (by simp))]
   rw [y55 _ l _ 0 (by simp) (by omega) hl,drop4]; rfl
 | [a,b],_ =>
  cases ga:gdB a
  ·rw [if_neg (by simp [ga])]
   exact Yc (.inl (Ym _ 0 _ a rfl (by omega) ga))
  cases gb:gdB b
  ·rw [if_neg (by simp [gb])]
   exact Yc (.inr ⟨_,jz _ 0 0 a (by omega) rfl (by omega) ga,.inl (Ym _ 1 _ b rfl (by omega) gb)⟩)
  ·obtain ⟨_,ha⟩:=gd_t ga
   obtain ⟨_,hb⟩:=gd_t gb
   rw [if_pos (by simp [ga,gb]),rng4 (body:=fun (k:Nat) (q:Int)=>uk [a,b] k q) (jz _ 0 0 a (by omega) rfl (by omega) ga) (jz _ 1 _ b (by omega) rfl (by omega) gb) (z7c _ 2 _ (by omega) (by simp)) (z7c _ 3 _ (by omega) (by simp))]
   rw [y55 _ l _ 1 (by simp) (by omega) hl,drop4]
   have e:z7w ((((0 * 64+iv a) * 64+iv b) * 64) * 64) 1=[iv a * 4+iv b / 16]:=by
    show [_ / 65536 % 256]=_
    congr 1; omega
   rw [e]; rfl
 | [a,b,c],_ =>
  cases ga:gdB a
  ·rw [if_neg (by simp [ga])]
   exact Yc (.inl (Ym _ 0 _ a rfl (by omega) ga))
  cases gb:gdB b
  ·rw [if_neg (by simp [gb])]
   exact Yc (.inr ⟨_,jz _ 0 0 a (by omega) rfl (by omega) ga,.inl (Ym _ 1 _ b rfl (by omega) gb)⟩)
  obtain ⟨_,ha⟩:=gd_t ga
  obtain ⟨_,hb⟩:=gd_t gb
  cases gc:gdB c
  ·rw [if_neg (by simp [gc])]
   exact Yc (.inr ⟨_,jz _ 0 0 a (by omega) rfl (by omega) ga,.inr ⟨_,jz _ 1 _ b (by omega) rfl (by omega) gb,.inl (Ym _ 2 _ c rfl (by omega) gc)⟩⟩)
  ·obtain ⟨_,hc⟩:=gd_t gc
   rw [if_pos (by simp [ga,gb,gc]),rng4 (body:=fun (k:Nat) (q:Int)=>uk [a,b,c] k q) (jz _ 0 0 a (by omega) rfl (by omega) ga) (jz _ 1 _ b (by omega) rfl (by omega) gb) (jz _ 2 _ c (by omega) rfl (by omega) gc) (z7c _ 3 _ (by omega) (by simp))]
   rw [y55 _ l _ 2 (by simp) (by omega) hl,drop4]
   have e:z7w ((((0 * 64+iv a) * 64+iv b) * 64+iv c) * 64) 2=[iv a * 4+iv b / 16,iv b % 16 * 16+iv c / 4]:=by
    show [_ / 65536 % 256,_ / 256 % 256]=_
    congr 1
    ·omega
    congr 1; omega
   rw [e]; rfl
 | a::b::c::d::r,_ =>
  cases ga:gdB a
  ·rw [if_neg (by simp [ga])]
   exact Yc (.inl (Ym _ 0 _ a rfl (by omega) ga))
  cases gb:gdB b
  ·rw [if_neg (by simp [gb])]
   exact Yc (.inr ⟨_,jz _ 0 0 a (by omega) rfl (by omega) ga,.inl (Ym _ 1 _ b rfl (by omega) gb)⟩)
  obtain ⟨_,ha⟩:=gd_t ga
  obtain ⟨_,hb⟩:=gd_t gb
  cases gc:gdB c
  ·rw [if_neg (by simp [gc])]
   exact Yc (.inr ⟨_,jz _ 0 0 a (by omega) rfl (by omega) ga,.inr ⟨_,jz _ 1 _ b (by omega) rfl (by omega) gb,.inl (Ym _ 2 _ c rfl (by omega) gc)⟩⟩)
  obtain ⟨_,hc⟩:=gd_t gc
  cases gd:gdB d
  ·rw [if_neg (by simp [gd])]
   exact Yc (.inr ⟨_,jz _ 0 0 a (by omega) rfl (by omega) ga,.inr ⟨_,jz _ 1 _ b (by omega) rfl (by omega) gb,.inr ⟨_,jz _ 2 _ c (by omega) rfl (by omega) gc,Ym _ 3 _ d rfl (by omega) gd⟩⟩⟩)
  ·obtain ⟨_,hd⟩:=gd_t gd
   rw [if_pos (by simp [ga,gb,gc,gd]),rng4 (body:=fun (k:Nat) (q:Int)=>uk (a::b::c::d::r) k q) (jz _ 0 0 a (by omega) rfl (by omega) ga) (jz _ 1 _ b (by omega) rfl (by omega) gb) (jz _ 2 _ c (by omega) rfl (by omega) gc) (jz _ 3 _ d (by omega) rfl (by omega) gd)]
   rw [y55 _ l _ 3 (by simp) (by omega) hl,drop4]
   have e:z7w ((((0 * 64+iv a) * 64+iv b) * 64+iv c) * 64+iv d) 3=[iv a * 4+iv b / 16,iv b % 16 * 16+iv c / 4,iv c % 4 * 64+iv d]:=by
    show [_ / 65536 % 256,_ / 256 % 256,_ / 1 % 256]=_
    congr 1
    ·omega
    congr 1
    ·omega
    congr 1; omega
   rw [e]; rfl
theorem w7q (s:List Nat):decP s=decP (s.take 4)++decP (s.drop 4):=by
 match s with
 | []=>rfl
 | [a]=>rfl
 | [a,b]=>rfl
 | [a,b,c]=>rfl
 | a::b::c::d::r=>rfl
theorem decI (s0:Bs):∀ (n:Nat) (s:Bs) (l:List Int),s.length≤n→l.length+s.length+4≤1000000000→iter (fun (s:Bs×(List Int))=>Zz s0 s.1 s.2) (s,l)=if s.all gdB then z1a s0 (l++nI (decP (s.map iv))) else some ([],9):=by
 intro n
 induction n with
 | zero =>
  intro s l h _
  obtain rfl:s=[]:=List.length_eq_zero_iff.1 (by omega)
  rw [y0s]
  show (Zz s0 [] l).bind _=_
  unfold Zz
  rw [if_neg (by simp)]
  simp only [List.all_nil,if_true,List.map_nil,decP,nI,List.append_nil]
  cases z1a s0 l <;> rfl
 | succ n ih =>
  intro s l h hb
  by_cases hs:s=[]
  ·exact ih s l (by rw [hs]; simp) hb
  have hr:=w7o s0 s l hs (by omega)
  have hal:s.all gdB=((s.take 4).all gdB && (s.drop 4).all gdB):=by rw [← List.all_append,List.take_append_drop]
  cases hq:(s.take 4).all gdB
  ·rw [hq,if_neg (by simp)] at hr
   rw [xe (body:=fun (s:Bs×(List Int))=>Zz s0 s.1 s.2) (s:=(s,l)) hr,hal,hq]
   simp
  ·rw [hq,if_pos rfl] at hr
   have hp:0 < s.length:=by cases s with | nil=>exact absurd rfl hs | cons _ _=>simp
   have hd:=y1h ((s.take 4).map iv)
   simp only [List.length_map,List.length_take] at hd
   rw [js (body:=fun (s:Bs×(List Int))=>Zz s0 s.1 s.2) (s:=(s,l)) hr,ih (s.drop 4) _ (by simp; omega) (by simp only [nI,List.length_append,List.length_map,List.length_drop]; omega),hal,hq,w7q (s.map iv)]
   simp only [Bool.true_and,nI,List.map_append,List.append_assoc,List.map_take,List.map_drop]
theorem y6v (l:List Int):(strN l).length=l.length:=by simp [strN]
def decF (s:Bs):Bs×Int:=if s.all gdB then (if encP (strN (nI (decP (s.map iv))))≠s then ([],9) else (strN (nI (decP (s.map iv))),0)) else ([],9)
theorem w7n (s:Bs) (h:s.length≤100000000):z83 s=some (decF s):=by
 unfold z83
 rw [decI s s.length s [] (Nat.le_refl _) (by simp only [List.length_nil]; omega),List.nil_append]
 unfold decF
 cases hq:s.all gdB
 ·simp
 ·simp only [if_true]
  unfold z1a
  have hd:=y1h (s.map iv)
  rw [w7b _ (by rw [y6v]; simp [nI]; simp at hd; omega)]
  simp only [Option.bind_some]
  by_cases h1:encP (strN (nI (decP (s.map iv))))=s <;> simp [h1]
theorem z7b (s0:Bs) (v:Nat) (r:Bs) (l:List Int) (hv:v < 256) (hlen:r.length+8≤1000000000) (ho:l.length+1≤1000000000):ki s0 (yz 8 v++r) l=some (.inl (r,l++nI [v])):=by
 have hl:=vt 8 v
 unfold ki
 rw [if_pos (by simp [hl]; omega),show (8:Int)=((8:Nat):Int) from rfl,z4d _ 8 (by simp [hl])]
 have e2:sub? (yz 8 v++r) ((8:Nat):Int) ((yz 8 v++r).length:Int)=some r:=by
  unfold sub?
  rw [if_pos (by simp [hl]; omega),List.take_of_length_le (by simp only [List.length_drop]; omega)]
  simp only [Int.toNat_natCast]
  rw [List.drop_append_of_le_length (by omega),List.drop_eq_nil_of_le (by omega)]; rfl
 have e3:(yz 8 v++r).take 8=yz 8 v:=by
  rw [List.take_append_of_le_length (by omega),List.take_of_length_le (by omega)]
 simp only [Option.bind_some]
 rw [e3,w1s v hv]
 simp only [Option.bind_some]
 rw [if_pos ho,e2]
 simp only [Option.bind_some]
 rw [x7q hv]; rfl
theorem y54 (s0:Bs) (q:Bs) (l:List Int) (h:q.length < 8):ki s0 q l=Option.map .inr (z2y s0 l):=by
 unfold ki
 rw [if_neg (by simp; omega)]
def ku (s:List Nat):Bs:=s.flatMap fun v=>yz 6 v
theorem x1m (s:List Nat):(ku s).length=6 * s.length:=by
 induction s with
 | nil=>rfl
 | cons c s ih=>unfold ku at ih ⊢; rw [List.flatMap_cons,List.length_append,vt,ih,List.length_cons]; omega
theorem y4y {σ ρ:Type} {body:σ→Option (σ ⊕ ρ)} {s:σ} {e:Option ρ} (h:body s=e.map .inr):iter body s=e:=by
 rw [y0s,h]
 cases e <;> rfl
theorem x52 (s0:Bs):∀ (s:List Nat) (l:List Int),(∀ v,v∈s→v < 64)→l.length+6 * s.length+10≤1000000000→iter (fun (s:Bs×(List Int))=>ki s0 s.1 s.2) (ku s,l)=z2y s0 (l++nI (decP s))
 | [],l,_,h=>by
  rw [y4y (body:=fun (s:Bs×(List Int))=>ki s0 s.1 s.2) (s:=(ku [],l)) (y54 s0 [] l (by simp))]
  simp [decP,nI]
 | [a],l,_,h=>by
  rw [y4y (body:=fun (s:Bs×(List Int))=>ki s0 s.1 s.2) (s:=(ku [a],l)) (y54 s0 (ku [a]) l (by rw [x1m]; simp))]
  simp [decP,nI]
 | [a,b],l,hv,h=>by
  have ha:=hv a (by simp)
  have hb:=hv b (by simp)
  simp only [List.length_cons,List.length_nil] at h
  have e:ku [a,b]=yz 8 (a * 4+b / 16)++yz 4 (b % 16):=by
   unfold ku
   simp only [List.flatMap_cons,List.flatMap_nil,List.append_nil]
   rw [t24 b hb,← i62 a ha (b / 16) (by omega),List.append_assoc]
  rw [e,js (body:=fun (s:Bs×(List Int))=>ki s0 s.1 s.2) (s:=(_,l)) (z7b s0 _ _ l (by omega) (by rw [vt]; omega) (by omega)),y4y (body:=fun (s:Bs×(List Int))=>ki s0 s.1 s.2) (s:=(_,_)) (y54 s0 _ _ (by rw [vt]; omega))]
  simp [decP,nI]
 | [a,b,c],l,hv,h=>by
  have ha:=hv a (by simp)
  have hb:=hv b (by simp)
  have hc:=hv c (by simp)
  simp only [List.length_cons,List.length_nil] at h
  have e:ku [a,b,c]=yz 8 (a * 4+b / 16)++(yz 8 (b % 16 * 16+c / 4)++yz 2 (c % 4)):=by
   unfold ku
   simp only [List.flatMap_cons,List.flatMap_nil,List.append_nil]
   rw [t24 b hb,t42 c hc,← i62 a ha (b / 16) (by omega),← i44 (b % 16) (by omega) (c / 4) (by omega)]
   simp only [List.append_assoc]
  rw [e,js (body:=fun (s:Bs×(List Int))=>ki s0 s.1 s.2) (s:=(_,l)) (z7b s0 _ _ l (by omega) (by simp [vt]) (by omega)),js (body:=fun (s:Bs×(List Int))=>ki s0 s.1 s.2) (s:=(_,_)) (z7b s0 _ _ _ (by omega) (by simp [vt]) (by simp [nI]; omega)),y4y (body:=fun (s:Bs×(List Int))=>ki s0 s.1 s.2) (s:=(_,_)) (y54 s0 _ _ (by rw [vt]; omega))]
  simp [decP,nI]
 | a::b::c::d::r,l,hv,h=>by
  have ha:=hv a (by simp)
  have hb:=hv b (by simp)
  have hc:=hv c (by simp)
  have hd:=hv d (by simp)
  have hr:=x1m r
  simp only [List.length_cons] at h
  have e:ku (a::b::c::d::r)=yz 8 (a * 4+b / 16)++(yz 8 (b % 16 * 16+c / 4)++(yz 8 (c % 4 * 64+d)++ku r)):=by
   unfold ku
   simp only [List.flatMap_cons]
   rw [t24 b hb,t42 c hc,← i62 a ha (b / 16) (by omega),← i44 (b % 16) (by omega) (c / 4) (by omega),← i26 (c % 4) (by omega) d hd]
   simp only [List.append_assoc]
  rw [e,js (body:=fun (s:Bs×(List Int))=>ki s0 s.1 s.2) (s:=(_,l)) (z7b s0 _ _ l (by omega) (by simp [vt]; omega) (by omega)),js (body:=fun (s:Bs×(List Int))=>ki s0 s.1 s.2) (s:=(_,_)) (z7b s0 _ _ _ (by omega) (by simp [vt]; omega) (by simp [nI]; omega)),js (body:=fun (s:Bs×(List Int))=>ki s0 s.1 s.2) (s:=(_,_)) (z7b s0 _ _ _ (by omega) (by omega) (by simp [nI]; omega)),x52 s0 r _ (fun v hm=>hv v (by simp [hm])) (by simp [nI]; omega)]
  simp [decP,nI]
theorem w7m (s:Bs) (h:s.length≤10000000):z90 s=some (decF s):=by
 unfold z90
 rw [if_pos (by omega)]
 have key:∀ (l:Bs) (k:Nat) (bs:Bs),bs.length+6 * l.length≤1000000000→forL (fun (k:Nat) (x:UInt8) (s:Bs)=>Qo k x s) (fun (q:Bs)=>z2z s q) k l bs=if l.all gdB then z2z s (bs++ku (l.map iv)) else some ([],9):=by
  intro l
  induction l with
  | nil=>intro k bs _; show z2z s bs=_; simp [ku]
  | cons c l ih =>
   intro k bs hl
   simp only [List.length_cons] at hl
   show (Qo k c bs).bind _=_
   cases hg:gdB c
   ·have e2:Qo k c bs=some (.inr ([],9)):=by
     have:=gd_f hg
     unfold Qo
     rw [y42]
     simp only [Option.bind_some]
     rw [if_pos (by simp; omega)]
    rw [e2]
    simp [hg,after]
   ·obtain ⟨h2,h3⟩:=gd_t hg
    have e1:sub? (49::yz 6 (iv c)) 1 ((49::yz 6 (iv c)).length:Int)=some (yz 6 (iv c)):=by
     unfold sub?
     rw [if_pos (by simp [vt]),List.take_of_length_le (by simp)]
     rfl
    have e2:Qo k c bs=some (.inl (bs++yz 6 (iv c))):=by
     unfold Qo
     rw [y42]
     simp only [Option.bind_some]
     rw [if_neg (by simp; omega),h2,w6y _ h3]
     simp only [Option.bind_some,e1]
     rw [if_pos (by rw [vt]; omega)]
    rw [e2]
    simp only [Option.bind_some,after]
    rw [ih (k+1) _ (by simp only [List.length_append,vt]; omega)]
    simp only [List.all_cons,hg,Bool.true_and,List.map_cons]
    unfold ku
    rw [List.flatMap_cons,List.append_assoc]
 rw [key s 0 [] (by simp only [List.length_nil]; omega),List.nil_append]
 unfold decF
 cases hq:s.all gdB
 ·simp
 ·simp only [if_true]
  have hv:∀ v,v∈s.map iv→v < 64:=by
   intro v hv
   obtain ⟨c,hc,rfl⟩:=List.mem_map.1 hv
   exact (gd_t (List.all_eq_true.1 hq c hc)).2
  unfold z2z
  rw [x52 s (s.map iv) [] hv (by simp; omega),List.nil_append]
  unfold z2y
  have hd:=y1h (s.map iv)
  rw [y51 _ (by rw [y6v]; simp [nI]; simp at hd; omega)]
  simp only [Option.bind_some]
  by_cases h1:encP (strN (nI (decP (s.map iv))))=s <;> simp [h1]
def hst (h:Int) (c:UInt8):Int:=IntKind.wrap .u64 ((xor_ .u64 h (IntKind.wrap .u64 (c.toNat:Int))) * 1099511628211)
theorem y6i (n:Int):0≤IntKind.wrap .u64 n∧IntKind.wrap .u64 n≤18446744073709551615:=by
 unfold IntKind.wrap
 simp [IntKind.bits,IntKind.signed]
 omega
theorem w6a (l:Bs):∀ h:Int,(0≤h∧h≤18446744073709551615)→0≤l.foldl hst h∧l.foldl hst h≤18446744073709551615:=by
 induction l with
 | nil=>intro h hh; exact hh
 | cons c l ih=>intro h _; exact ih _ (y6i _)
theorem y9b {ρ:Type} {body:Nat→UInt8→Int→Option (Int ⊕ ρ)} {fin:Int→Option ρ} (hb:∀ k c h,body k c h=some (.inl (hst h c))):∀ (l:Bs) (k:Nat) (h:Int),forL body fin k l h=fin (l.foldl hst h)
 | [],k,h=>rfl
 | c::l,k,h=>by
  show (body k c h).bind _=_
  rw [hb]
  exact y9b hb l (k+1) _
theorem x8j (k:Nat) (x:Bs) (h:Int) (hx:x.length≤1000000000):z02 k x h=some (.inl (x.foldl hst h)):=by
 unfold z02
 rw [if_pos hx,y9b (body:=fun (k:Nat) (x:UInt8) (s:Int)=>y2g k x s) (fun _ _ _=>rfl)]
 rfl
theorem x03:∀ (ls:List Bs) (k:Nat) (h:Int),(∀ x,x∈ls→x.length≤1000000000)→forL (fun (k:Nat) (x:Bs) (s:Int)=>z02 k x s) (fun (s:Int)=>Wg s) k ls h=Wg (ls.foldl (fun h x=>x.foldl hst h) h)
 | [],k,h,_=>rfl
 | x::ls,k,h,hx=>by
  show (z02 k x h).bind _=_
  rw [x8j k x h (hx x (by simp))]
  exact x03 ls (k+1) _ fun y hy=>hx y (by simp [hy])
def mixH (h:Int):Int:=IntKind.wrap .u64 ((xor_ .u64 h (shr_ .u64 h 29)) * 13787848793156543929)
theorem w6k (h:Int) (hh:0≤h∧h≤18446744073709551615):Ok (z5e h) fun r=>r.length≤100:=by
 unfold z5e
 have hf:Ok (z43 h 16) fun r=>r.length≤16:=by
  unfold z43 y4c z5d z6b z9j
  rw [if_neg (by decide),if_neg (by decide),if_neg (by decide)]
  have hp:decide (and_ .i64 16 (wr (16 - 1))=0)=true:=by decide +kernel
  have htz:z5s (IntKind.wrap .u64 16)=some 4:=by decide +kernel
  simp only [hp,Option.bind_some,if_true,htz]
  refine yc (Q:=fun r=>r.length≤16) (yc (Q:=fun r=>r.2.length≤16) ?_ fun r hr=>yx hr) fun r hr=>yx hr
  have h16p:h.toNat < 16 ^ (16 - 0):=by
   have:(16:Nat) ^ (16 - 0)=18446744073709551616:=by decide
   rw [this]; omega
  refine x2s (fun s:Int×Int×List Int=>∃ v j:Nat,s.1=(v:Int)∧s.2.1=((65 - j:Nat):Int)∧j≤15∧s.2.2.length=65∧v < 16 ^ (16 - j)) (fun s=>s.1.toNat) ?_ _ ⟨h.toNat,0,by simp; omega,rfl,by omega,by simp,h16p⟩
  rintro ⟨v,i,l⟩ ⟨v,j,rfl,rfl,hj,hl,hv⟩
  simp only at hl ⊢
  have e16:IntKind.wrap .u64 16=16:=by decide
  have e15:IntKind.wrap .u64 (16 - 1)=15:=by decide
  have hdig:∀ u:Nat,u < 16→Ok (at? ([48,49,50,51,52,53,54,55,56,57,97,98,99,100,101,102,103,104,105,106,107,108,109,110,111,112,113,114,115,116,117,118,119,120,121,122]:Bs) (u:Int)) fun _=>True:=by
   intro u hu
   rw [Qt,List.getElem?_eq_getElem (by simp; omega)]
   exact ⟨_,rfl,trivial⟩
  have ew:wr (((65 - j:Nat):Int) - 1)=((64 - j:Nat):Int):=by rw [vh (by omega)]; omega
  unfold z2g
  rw [e16,e15,ew]
  by_cases h16:16≤v
  ·rw [if_pos (by simp; omega)]
   have hj2:j≤14:=by
    rcases Nat.lt_or_ge 14 j with hq | hq
    ·have:j=15:=by omega
     subst this
     simp at hv; omega
    ·exact hq
   have e1:and_ .u64 (v:Int) 15=((v % 16:Nat):Int):=by
    show IntKind.wrap .u64 (((BitVec.ofInt IntKind.u64.bits (v:Int) &&& BitVec.ofInt IntKind.u64.bits ((15:Nat):Int)).toNat:Nat):Int)=_
    have hbits:IntKind.u64.bits=64:=rfl
    have hv2:v < 2 ^ 64:=Nat.lt_of_lt_of_le hv (Nat.le_trans (Nat.pow_le_pow_right (by decide) (show 16 - j≤16 by omega)) (by decide))
    rw [hbits,BitVec.ofInt_natCast,BitVec.ofInt_natCast,BitVec.toNat_and,BitVec.toNat_ofNat,BitVec.toNat_ofNat,Nat.mod_eq_of_lt hv2,Nat.mod_eq_of_lt (by omega),show 15=2 ^ 4 - 1 from rfl,Nat.and_two_pow_sub_one_eq_mod]
    exact x7r (by omega)
   have e4:IntKind.wrap .u64 4=4:=by decide
   have e2:shr_ .u64 (v:Int) 4=((v / 16:Nat):Int):=by
    show (v:Int).fdiv (2 ^ (min (4:Int).toNat IntKind.u64.bits))=_
    have:min (4:Int).toNat IntKind.u64.bits=4:=by decide
    rw [this,Int.fdiv_eq_ediv_of_nonneg _ (by decide)]
    rfl
   rw [e1]
   refine yc (hdig (v % 16) (Nat.mod_lt _ (by decide))) fun x _=>ok_g (by omega) (ok_g (by omega) ?_)
   rw [e4,e2]
   refine ok_g (by omega) (yx ⟨⟨v / 16,j+1,rfl,?_,by omega,by simp [hl],?_⟩,?_⟩)
   ·have:64 - j=65 - (j+1):=by omega
    rw [this]
   ·obtain ⟨m,hm⟩:∃ m,16 - j=m+1:=⟨15 - j,by omega⟩
    rw [hm,Nat.pow_succ] at hv
    rw [show 16 - (j+1)=m by omega]
    omega
   ·simp only [Int.toNat_natCast]; omega
  ·rw [if_neg (by simp; omega)]
   have hJ:Ok (z58 false false (v:Int) ((65 - j:Nat):Int) l) fun r=>r.2.length≤16:=by
    unfold z58 z6a z57
    rw [ew]
    refine yc (hdig v (by omega)) fun x _=>ok_g (by omega) (ok_g (by omega) ?_)
    rw [if_neg (by decide),if_neg (by decide)]
    refine ok_g (by simp [hl]) (ok_g (by omega) (yx ?_))
    simp only [strN,List.length_map,List.length_drop,List.length_set,hl,Int.toNat_natCast]
    omega
   obtain ⟨r,h1,h2⟩:=hJ
   rw [h1]
   exact ⟨_,rfl,h2⟩
 refine yc hf fun r hr => ?_
 have hw:wr (16 - (r.length:Int))=16 - (r.length:Int):=vh (by omega)
 rw [hw]
 have hr2:Ok (Zh [48] (16 - (r.length:Int))) fun q=>q.length≤16:=by
  unfold Zh
  refine ok_g ⟨by omega,by omega,by simp⟩ (yx ?_)
  rw [Lib.repeatL_length]
  simp only [List.length_cons,List.length_nil]
  omega
 exact yc hr2 fun q hq=>ok_g (by omega) (yx (by simp only [List.length_append]; omega))
theorem x8k (h:Int) (hh:0≤h∧h≤18446744073709551615):Ok (Wg h) fun r=>z6l (mixH (mixH (mixH h)))=some r∧r.length≤100:=by
 unfold Wg
 rw [if_pos (by decide),rng3 (body:=fun (k:Nat) (s:Int)=>y2h k s) (b:=mixH h) (c:=mixH (mixH h)) (d:=mixH (mixH (mixH h))) rfl rfl rfl]
 obtain ⟨r,h1,hlen⟩:=w6k (mixH (mixH (mixH h))) (y6i _)
 have e:y2i (mixH (mixH (mixH h)))=z5e (mixH (mixH (mixH h))):=rfl
 rw [e,h1]
 unfold z6l
 rw [h1]
 exact ⟨r,rfl,rfl,hlen⟩
theorem w5x (a b:Bs):Lib.join [a,b,a] [0]=a++([0]++(b++([0]++a))):=by
 simp [Lib.join]
theorem y2t (s t:Bs) (hs:s.length≤1000000) (ht:t.length≤1000000):Ok (z1w s t) fun r=>uo s t=some r∧r.length≤100:=by
 obtain ⟨H,hH⟩:∃ H,(s++([0]++(t++([0]++s)))).foldl hst 14695981039346656037=H:=⟨_,rfl⟩
 have hr:0≤H∧H≤18446744073709551615:=by rw [← hH]; exact w6a _ _ (by decide)
 have e1:z1w s t=Wg H:=by
  unfold z1w
  rw [if_pos (by simp)]
  rw [x03 _ _ _ (by intro x hx; simp at hx; rcases hx with h1 | h1 | h1 | h1 | h1 <;> rw [h1] <;> first | omega | simp)]
  rw [← hH]
  simp only [List.foldl_append,List.foldl_cons,List.foldl_nil]
 have e2:uo s t=z6l (mixH (mixH (mixH H))):=by
  unfold uo y4e xb
  rw [w5x]
  have hlen:(s++([0]++(t++([0]++s)))).length≤1000000000:=by simp; omega
  rw [if_pos ⟨by simp,hlen⟩]
  simp only [Option.bind_some]
  rw [if_pos hlen,y9b (body:=fun (k:Nat) (x:UInt8) (s:Int)=>y48 k x s) (fun _ _ _=>rfl),hH]
  unfold y49
  simp only [Option.bind_some]
  rw [if_pos (by decide),rng3 (body:=fun (k:Nat) (s:Int)=>y5b k s) (b:=mixH H) (c:=mixH (mixH H)) (d:=mixH (mixH (mixH H))) rfl rfl rfl]
 rw [e1,e2]
 exact x8k H hr
theorem x6v (v:Int) (l:List ya):∀ n,n≤l.length→Ok (back (fun (k:Nat) (x:ya) (s:Unit)=>Ql v k x) (fun (s:Unit)=>y08) l n ()) fun r=>r.2=false→r.1.Id=[]
 | 0,_=>yx fun _=>rfl
 | n+1,h=>by
  show Ok ((l[n]?).bind _) _
  rw [List.getElem?_eq_getElem (by omega)]
  show Ok ((Ql v n l[n]).bind _) _
  unfold Ql
  split
  ·exact yx fun h=>by cases h
  ·exact x6v v l n (by omega)
theorem x93 (l:List ya) (hl:SgB l) (v:Int):Ok (Qg l v) fun r=>r.2=false→r.1.Id=[]:=by
 unfold Qg
 have:=hl.len
 exact ok_g (by omega) (x6v v l _ (Nat.le_refl _))
noncomputable def sgAt (l:List ya) (v:Int):ya×Bool:=(Qg l v).getD (⟨[],[],0,0,0⟩,false)
theorem x1o (l:List ya) (hl:SgB l) (v:Int):Qg l v=some (sgAt l v)∧((sgAt l v).2=false→(sgAt l v).1.Id=[]):=by
 obtain ⟨r,h1,h2⟩:=x93 l hl v
 unfold sgAt
 rw [h1]
 exact ⟨rfl,h2⟩
theorem CSm.cl {c:zm} (h:CSm c):ClB c:=
 ⟨by have:=h.id; omega,by have:=h.subject; omega,by have:=h.issuer; omega,by have:=h.parent; omega,⟨by have:=h.aud.1; omega,fun x hx=>by have:=h.aud.2 x hx; omega⟩,⟨by have:=h.sc.1; omega,fun x hx=>by have:=h.sc.2 x hx; omega⟩⟩
theorem w2a (v:Int):z8r v=some (if momP v=true then 0 else 1):=by
 unfold z8r
 rw [x49]
 simp only [Option.bind_some]
 cases momP v <;> rfl
def cwF (c:zm):Bs×Int:=if clF c≠0 then ([],clF c) else if 4000 < (txC c).length then ([],2) else (txC c,0)
theorem w7v (c:zm):(cwF c).1.length≤4000:=by
 unfold cwF
 split
 ·simp
 ·split
  ·simp
  ·simp only; omega
theorem x97 {l:List ya} (hl:SgB l) (v:Int):(sgAt l v).2=true→(sgAt l v).1.Id.length≤1000∧(sgAt l v).1.Secret.length≤1000:=by
 have key:∀ n,n≤l.length→Ok (back (fun (k:Nat) (x:ya) (s:Unit)=>Ql v k x) (fun (s:Unit)=>y08) l n ()) fun r=>r.2=true→r.1.Id.length≤1000∧r.1.Secret.length≤1000:=by
  intro n
  induction n with
  | zero=>intro _; exact yx (fun h=>by cases h)
  | succ n ih =>
   intro h
   show Ok ((l[n]?).bind _) _
   rw [List.getElem?_eq_getElem (by omega)]
   show Ok ((Ql v n l[n]).bind _) _
   have hk:=hl.key l[n] (List.getElem_mem (by omega))
   unfold Ql
   split
   ·exact yx fun _=>hk
   ·exact ih (by omega)
 obtain ⟨r,h1,h2⟩:=key l.length (Nat.le_refl _)
 have h3:Qg l v=some r:=by
  unfold Qg
  rw [if_pos (by have:=hl.len; omega)]
  exact h1
 have h4:=(x1o l hl v).1
 rw [h3] at h4
 have h5:r=sgAt l v:=Option.some.inj h4
 rw [← h5]; exact h2
theorem w7r (s:Bs):(decF s).1.length≤s.length:=by
 have h1:=y1h (s.map iv)
 simp only [List.length_map] at h1
 unfold decF
 split
 ·split
  ·simp
  ·simp only [y6v,nI,List.length_map]; exact h1
 ·simp
def opE (x:ya) (v:Int) (q:zm×Int×Int):zm×Int:=if q.2.2≠0 then (kf,q.2.2) else if v < x.From∨x.Until≤v then (kf,11) else (q.1,0)
theorem w1x {l:List ya} (hl:SgB l) (t:Bs) (ht:t.length≤400000) (v:Int):∃ r,z9t l t v=some r∧ClB r.1∧z82 l t v=some (if sgF l≠0 then (kf,sgF l) else r):=by
 unfold z82 z9t
 rw [x6j l hl]
 simp only [Option.bind_some,w2a,y7v]
 have hsp:=y22 t 46 (by omega)
 have hlen:=Ze 46 t
 have hpc:=Yw 46 t
 rw [hsp]
 simp only [Option.bind_some]
 generalize spl 46 t=w at hlen hpc
 -- the rest,both sides
 have main:∃ r,(if (!momP v)=true then some ((zm.mk [] [] [] [] [] [] 0 0),(1:Int)) else if decide ((w.length:Int)≠3)=true then z0l l v w true else (w[0]?).bind fun (x11:Bs)=>(ko x11).bind fun (r13:(Bool))=>z0l l v w (!r13))=some r∧ClB r.1 ∧
   (if decide ((if momP v=true then (0:Int) else 1)≠0)=true then some ((zm.mk [] [] [] [] [] [] 0 0),(if momP v=true then (0:Int) else 1)) else if decide ((w.length:Int)≠3)=true then Wj l v w true else (w[0]?).bind fun (x14:Bs)=>(km x14).bind fun (r16:(Bool))=>Wj l v w (!r16))=some r:=by
  have c2:decide ((if momP v=true then (0:Int) else 1)≠0) = !momP v:=by cases momP v <;> rfl
  rw [c2]
  cases hm:momP v
  ·simp only [Bool.not_false,if_true]
   exact ⟨(kf,1),rfl,ke,rfl⟩
  ·simp only [Bool.not_true,Bool.false_eq_true,if_false]
   have cc:decide ((w.length:Int)≠3)=decide (w.length≠3):=by
    apply decide_eq_decide.2
    constructor <;> (intro h h'; apply h; omega)
   rw [cc]
   by_cases h3:w.length=3
   ·obtain ⟨a,b,c,rfl⟩:∃ a b c,w=[a,b,c]:=by
     match w,h3 with
     | [a,b,c],_=>exact ⟨a,b,c,rfl⟩
    simp only [List.length_cons,List.length_nil,Nat.zero_add,Nat.reduceAdd,ne_eq,not_true_eq_false,decide_false,Bool.false_eq_true,if_false]
    have la:=hpc a (by simp)
    have lb:=hpc b (by simp)
    simp only [List.getElem?_cons_zero,Option.bind_some,xw a (by omega),xt a (by omega)]
    cases hk:keyP a
    ·exact ⟨(kf,9),rfl,ke,rfl⟩
    ·unfold z0l Wj
     rw [if_neg (by simp),if_neg (by simp)]
     have i1:z12 l (fun (a0:ya)=>z5k a0 [a,b,c])=some (fdx (fun x:ya=>decide (x.Id=a)) 0 l):=
      y1f l (p:=fun a0=>z5k a0 [a,b,c]) (fun x=>decide (x.Id=a)) (by have:=hl.len; omega) fun x _=>rfl
     have i2:z12 l (fun (a0:ya)=>z4v a0 [a,b,c])=some (fdx (fun x:ya=>decide (x.Id=a)) 0 l):=
      y1f l (p:=fun a0=>z4v a0 [a,b,c]) (fun x=>decide (x.Id=a)) (by have:=hl.len; omega) fun x _=>rfl
     rw [i1,i2]
     simp only [Option.bind_some]
     have hneg:=y9c (fun x:ya=>decide (x.Id=a)) l
     by_cases hany:(l.any fun x:ya=>decide (x.Id=a))=true
     ·obtain ⟨q0,x,q1,q2,q3⟩:=x5s (fun x:ya=>decide (x.Id=a)) l hany
      rw [hneg,hany]
      simp only [Bool.not_true,Bool.false_eq_true,if_false,q1,Option.bind_some,List.getElem?_cons_zero,List.getElem?_cons_succ]
      have hxk:=hl.key x (List.mem_of_getElem? q2)
      rw [if_pos (by simp; omega),if_pos (by simp; omega),if_pos (by simp; omega),if_pos (by simp; omega)]
      obtain ⟨s,s1,s2,s3⟩:=y2t x.Secret ((a++[46])++b) (by omega) (by simp; omega)
      rw [s1,s2]
      simp only [Option.bind_some]
      by_cases hsum:s=c
      ·rw [if_neg (by simpa using hsum),if_neg (by simpa using hsum),w7n b (by omega),w7m b (by omega)]
       simp only [Option.bind_some]
       have hdl:=w7r b
       by_cases hd:(decF b).2=0
       ·rw [if_neg (by simpa using hd),if_neg (by simpa using hd),w1e _ (by omega),w1d _ (by omega)]
        simp only [Option.bind_some]
        have hq:=w1f (decF b).1
        generalize rdT (decF b).1=q at hq
        refine ⟨opE x v q,?_,?_,?_⟩
        ·unfold opE z2s z6m kf
         by_cases e0:q.2.2=0 <;> by_cases e1:x.From≤v <;> by_cases e2:v < x.Until <;> simp [e0,e1,e2] <;> (try omega)
         all_goals (first | (intro hh; omega) | (split <;> first | rfl | omega) | skip)
        ·unfold opE
         split
         ·exact ke
         ·split
          ·exact ke
          ·exact hq
        ·unfold opE z4b kf
         by_cases e0:q.2.2=0 <;> by_cases e1:v < x.From <;> by_cases e2:x.Until≤v <;> simp [e0,e1,e2]
       ·rw [if_pos (by simpa using hd),if_pos (by simpa using hd)]
        exact ⟨_,rfl,ke,rfl⟩
      ·rw [if_pos (by simpa using hsum),if_pos (by simpa using hsum)]
       exact ⟨_,rfl,ke,rfl⟩
     ·have hany':(l.any fun x:ya=>decide (x.Id=a))=false:=by simpa using hany
      rw [hneg,hany']
      simp only [Bool.not_false,if_true]
      exact ⟨_,rfl,ke,rfl⟩
   ·have c3:decide (w.length≠3)=true:=by simpa using h3
    simp only [c3,if_true]
    exact ⟨(kf,9),rfl,ke,rfl⟩
 obtain ⟨r,m1,m2,m3⟩:=main
 refine ⟨r,m1,m2,?_⟩
 by_cases h0:sgF l=0
 ·rw [if_neg (by simpa using h0),if_neg (not_not_intro h0)]
  exact m3
 ·rw [if_pos (by simpa using h0),if_pos h0]
  rfl
theorem w51 {l:List ya} (hl:SgB l) {c:zm} (hc:ClB c) (v:Int):Ok (z9w l c v) fun r=>r.1.length≤10000:=by
 have e2:z5n c=some (cwF c):=x78 c hc
 have hw:=w7v c
 have hk:=x97 hl v
 unfold z9w
 rw [e2]
 simp only [Option.bind_some,y7v,(x1o l hl v).1]
 refine ww (fun _=>yx (by simp)) (fun _=>ww (fun _=>yx (by simp)) (fun _=>ww (fun _=>yx (by simp)) (fun h=>ww (fun _=>yx (by simp)) (fun _ => ?_))))
 have hs:(sgAt l v).2=true:=by
  cases hq:(sgAt l v).2
  ·rw [hq] at h; exact absurd rfl h
  ·rfl
 obtain ⟨k1,k2⟩:=hk hs
 have hel:=y52 (cwF c).1
 refine ok_g (by simp; omega) ?_
 rw [y51 _ (show (cwF c).1.length≤100000000 by omega)]
 simp only [Option.bind_some]
 refine ok_g (by simp; omega) (ok_g (by simp; omega) ?_)
 obtain ⟨r,r1,r2,r3⟩:=y2t (sgAt l v).1.Secret (((sgAt l v).1.Id++[46])++encP (cwF c).1) (by omega) (by simp; omega)
 rw [r2]
 simp only [Option.bind_some]
 exact ok_g (by simp; omega) (yx (by simp; omega))
theorem y2u (s t:Bs) (hs:s.length≤1000000) (ht:t.length≤1000000):Ok (uo s t) fun r=>r.length≤100:=by
 obtain ⟨r,_,r2,r3⟩:=y2t s t hs ht
 exact ⟨r,r2,r3⟩
theorem x76 {k:Int} {s:zt} (h:SB k s) (hk:k≤9000) {l:List ya} (hl:SgB l) {c:zm} (hc:CSm c) (v:Int):Ok (z94 s l c v) fun r=>r.1.length≤98200∧SB (k+300) r.2:=by
 have J3:∀ (t:Bs) (a:List Int) (b:Int),t.length≤98100→SB (k+130) ⟨a,b⟩→Ok (z3a t a b) fun r=>r.1.length≤98200∧SB (k+300) r.2:=fun t a b ht hs=>by
  unfold z3a z6v
  refine yc (ua hs (by omega) _ (by omega)) fun r46 h46=>ww (fun _ => ?_) (fun _=>yx ⟨by simp only; omega,h46.mono (by omega)⟩)
  refine yc (jv h46 (by omega) _ ⟨by simp,by simp⟩) fun r49 h49 => ?_
  have l49:=ue h49.1 (by decide)
  refine ok_g (by simp; omega) (ok_g (by simp; omega) (yc (y2u _ _ (by simp) (by simp; omega)) fun r53 h53=>ok_g (by simp; omega) (yx ⟨by simp; omega,h49.2.mono (by omega)⟩)))
 have J2:∀ (t:Bs) (a:List Int) (b:Int),t.length≤98000→SB (k+120) ⟨a,b⟩→Ok (z3b t a b) fun r=>r.1.length≤98200∧SB (k+300) r.2:=fun t a b ht hs=>by
  unfold z3b
  refine yc (ua hs (by omega) _ (by omega)) fun r38 h38=>ww (fun _ => ?_) (fun _=>J3 t _ _ (by omega) (h38.mono (by omega)))
  refine yc (x6l h38 (by omega) t _ (by omega) (by simp)) fun r41 h41=>J3 _ _ _ (by have:=h41.1; simp only [List.length_cons,List.length_nil] at this; omega) (h41.2.mono (by omega))
 have J1:∀ (t:Bs),t.length≤98000→Ok (z3c s t) fun r=>r.1.length≤98200∧SB (k+300) r.2:=fun t ht=>by
  unfold z3c
  refine yc (ua h (by omega) _ (by omega)) fun r18 h18=>ww (fun _ => ?_) (fun _=>J2 t _ _ ht (h18.mono (by omega)))
  refine yc (jv h18 (by omega) _ ⟨by simp,by simp⟩) fun r21 h21 => ?_
  have l21:=ue h21.1 (by decide)
  refine ok_g (by simp; omega) (yc (w78 h21.2 (by omega)) fun r24 h24 => ?_)
  have hel:=y52 r24.1
  have l24:=h24.1
  rw [y51 _ (by omega)]
  simp only [Option.bind_some]
  refine ok_g (by simp; omega) (ok_g (by simp; omega) (yc (jv h24.2 (by omega) _ ⟨by simp,by simp⟩) fun r30 h30 => ?_))
  have l30:=ue h30.1 (by decide)
  exact yc (y2u _ _ (by omega) (by simp; omega)) fun r32 h32=>ok_g (by simp; omega) (J2 _ _ _ (by simp; omega) (h30.2.mono (by omega)))
 unfold z94
 refine yc (w51 hl hc.cl v) fun r5 i2=>ww (fun _ => ?_) (fun _=>J1 _ (by omega))
 rw [y77 hc.wb]
 simp only [Option.bind_some]
 have hcl:=hc.len
 have hel:=y52 (txC c)
 rw [y51 _ (by omega)]
 simp only [Option.bind_some]
 exact ok_g (by simp; omega) (ok_g (by simp; omega) (yc (y2u _ _ (by simp) (by simp; omega)) fun r14 h14=>ok_g (by simp; omega) (J1 _ (by simp; omega))))
section
variable {α:Type}
theorem x62 {l:List α} {k:Nat} (h:0 < k):at? l ((k:Int) - 1)=l[k - 1]?:=by
 unfold at?
 rw [if_pos (by omega)]
 congr 1
 omega
def chR (key:α→Bs) (g:α→Bool→Int):List α→Bs→Int
 | [],_=>0
 | x::l,last=>if g x (leB (key x) last)≠0 then g x (leB (key x) last) else chR key g l (key x)
theorem x6m {key:α→Bs} {g:α→Bool→Int} {body:Nat→α→Bs→Option (Bs ⊕ Int)} {fin:Bs→Option Int} {r:Option Int} (hf:∀ s,fin s=r):∀ (l:List α) (k:Nat) (last:Bs),(∀ j x s,x∈l→body j x s=if g x (leB (key x) s)≠0 then some (.inr (g x (leB (key x) s))) else some (.inl (key x)))→forL body fin k l last=if chR key g l last≠0 then some (chR key g l last) else r
 | [],k,last,h=>by simp [forL,chR,hf]
 | x::l,k,last,h=>by
  have h1:=h k x last (by simp)
  show (body k x last).bind _=_
  rw [h1]
  by_cases hp:g x (leB (key x) last)≠0
  ·simp [chR,hp,after]
  ·simp only [chR,hp,if_false,Option.bind_some,after]
   exact x6m hf l (k+1) (key x) fun j y s hy=>h j y s (List.mem_cons_of_mem _ hy)
def xd (key:α→Bs) (xs:List α) (k:Nat) (x:α):Bool:=decide (0 < k) && match xs[k - 1]? with | some y=>leB (key x) (key y) | none=>false
theorem x6n {key:α→Bs} {g:α→Bool→Int} (hg:∀ x,leB (key x) []=false∨∀ a b,g x a=g x b) (xs:List α) {body:Nat→α→Unit→Option (Unit ⊕ Int)} {fin:Unit→Option Int} {r:Option Int} (hf:fin ()=r):∀ (l:List α) (k:Nat) (last:Bs),(k=0∧last=[]∨0 < k∧∃ y,xs[k - 1]?=some y∧last=key y)→(∀ j,l[j]?=xs[k+j]?)→(∀ j x,xs[j]?=some x→body j x ()=if g x (xd key xs j x)≠0 then some (.inr (g x (xd key xs j x))) else some (.inl ()))→forL body fin k l ()=if chR key g l last≠0 then some (chR key g l last) else r
 | [],k,last,_,_,h=>by simp [forL,chR,hf]
 | x::l,k,last,hk,hl,h=>by
  have hx:xs[k]?=some x:=by have:=hl 0; simpa using this.symm
  have h1:=h k x hx
  have e:g x (xd key xs k x)=g x (leB (key x) last):=by
   rcases hk with ⟨rfl,rfl⟩ | ⟨h0,y,hy,rfl⟩
   ·have e2:xd key xs 0 x=false:=by simp [xd]
    rw [e2]
    rcases hg x with h3 | h3
    ·rw [h3]
    ·exact h3 _ _
   ·have e2:xd key xs k x=leB (key x) (key y):=by simp [xd,h0,hy]
    rw [e2]
  rw [e] at h1
  show (body k x ()).bind _=_
  rw [h1]
  by_cases hp:g x (leB (key x) last)≠0
  ·simp [chR,hp,after]
  ·simp only [chR,hp,if_false,Option.bind_some,after]
   refine x6n hg xs hf l (k+1) (key x) (.inr ⟨by omega,x,by simpa using hx,rfl⟩) (fun j => ?_) h
   have:=hl (j+1)
   rw [List.getElem?_cons_succ] at this
   rw [this]; congr 1; omega
end

abbrev xdL:Bs:=[48,49,50,51,52,53,54,55,56,57,97,98,99,100,101,102]
def isX (c:UInt8):Bool:=xdL.contains c
end Go.Proofs.YtndabcepiekebaaGreatDoor
