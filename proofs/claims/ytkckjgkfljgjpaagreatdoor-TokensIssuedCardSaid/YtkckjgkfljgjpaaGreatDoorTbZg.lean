/- Plain: strings encoded and decoded, sums. -/
import Derived.Test.YtkckjgkfljgjpaaGreatDoorTaZg
import Derived.Test.YtkckjgkfljgjpaaGreatDoorWoZg
namespace Go.Proofs.YtkckjgkfljgjpaaGreatDoor
set_option linter.unusedVariables false
set_option linter.unusedSimpArgs false
set_option linter.unusedSectionVars false
set_option maxRecDepth 20000
section
variable {σ ρ:Type}
theorem rng3 {body:Nat→σ→Option (σ ⊕ ρ)} {fin:σ→Option ρ} {a b c d:σ} (h0:body 0 a=some (.inl b)) (h1:body 1 b=some (.inl c)) (h2:body 2 c=some (.inl d)):rng body fin 3 0 a=fin d:=by
 show (body 0 a).bind _=_
 rw [h0]
 show (body 1 b).bind _=_
 rw [h1]
 show (body 2 c).bind _=_
 rw [h2]; rfl
theorem rng4 {body:Nat→σ→Option (σ ⊕ ρ)} {fin:σ→Option ρ} {a b c d e:σ} (h0:body 0 a=some (.inl b)) (h1:body 1 b=some (.inl c)) (h2:body 2 c=some (.inl d)) (h3:body 3 d=some (.inl e)):rng body fin 4 0 a=fin e:=by
 show (body 0 a).bind _=_
 rw [h0]
 show (body 1 b).bind _=_
 rw [h1]
 show (body 2 c).bind _=_
 rw [h2]
 show (body 3 d).bind _=_
 rw [h3]; rfl
end
def z4b:Nat→Nat→Bs
 | 0,_=>[]
 | n+1,m=>z4b n (m / 2)++[if m % 2=1 then 49 else 48]
theorem z3q:∀ n m,(z4b n m).length=n
 | 0,m=>rfl
 | n+1,m=>by simp [z4b,z3q n]
theorem fmt2 (n:Int) (r:Bs) (hn:decide (n < 0)=false) (h:itN (fun (s:Int×Int×(List Int))=>z2h 2 false false 1 s.1 s.2.1 s.2.2) 12 (IntKind.wrap .u64 n,65,(List.replicate 65 0))=some ([],r)):z5x n 2=some r:=by
 unfold z5x z67 z3h z2y z30
 rw [hn]
 have htz:z7m (IntKind.wrap .u64 2)=some 1:=by decide +kernel
 have hp:decide (and_ .i64 2 (wr (2 - 1))=0)=true:=by decide +kernel
 have hi:=y3m.2 ⟨12,h⟩
 simp only [hp,Option.bind_some,if_true,htz,hi,show decide ((2:Int)=10)=false from rfl,show decide ((2:Int) < 2)=false from rfl,show decide ((36:Int) < 2)=false from rfl,Bool.or_self,Bool.false_eq_true,if_false]
theorem w51 (c:UInt8):z5x (wr (256+(IntKind.wrap .i64 (c.toNat:Int)))) 2=some (49::z4b 8 c.toNat):=by
 refine fmt2 _ _ ?_ ?_
 ·have:=y7e (fun c => !decide (wr (256+(IntKind.wrap .i64 (c.toNat:Int))) < 0)) (by decide +kernel) c
  simpa using this
 ·have:=y7e (fun c=>decide (itN (fun (s:Int×Int×(List Int))=>z2h 2 false false 1 s.1 s.2.1 s.2.2) 12 (IntKind.wrap .u64 (wr (256+(IntKind.wrap .i64 (c.toNat:Int)))),65,(List.replicate 65 0))=some ([],49::z4b 8 c.toNat))) (by decide +kernel) c
  exact of_decide_eq_true this
theorem w4c (v:Nat) (h:v < 64):z5x (wr (64+(v:Int))) 2=some (49::z4b 6 v):=by
 refine fmt2 _ _ ?_ ?_
 ·have:∀ v,v < 64→decide (wr (64+((v:Nat):Int)) < 0)=false:=by decide +kernel
  exact this v h
 ·have:∀ v,v < 64→itN (fun (s:Int×Int×(List Int))=>z2h 2 false false 1 s.1 s.2.1 s.2.2) 12 (IntKind.wrap .u64 (wr (64+((v:Nat):Int))),65,(List.replicate 65 0))=some ([],49::z4b 6 v):=by decide +kernel
  exact this v h
theorem x8z (v:Nat) (h:v < 64):z58 (z4b 6 v) 2 64=some ((v:Int),0):=by
 have:∀ v,v < 64→z58 (z4b 6 v) 2 64=some (((v:Nat):Int),0):=by decide +kernel
 exact this v h
theorem x4z (v:Nat) (h:v < 256):z58 (z4b 8 v) 2 64=some ((v:Int),0):=by
 have:∀ v,v < 256→z58 (z4b 8 v) 2 64=some (((v:Nat):Int),0):=by decide +kernel
 exact this v h
theorem s62:∀ a,a < 256→z4b 8 a=z4b 6 (a / 4)++z4b 2 (a % 4):=by decide +kernel
theorem s44:∀ a,a < 256→z4b 8 a=z4b 4 (a / 16)++z4b 4 (a % 16):=by decide +kernel
theorem s26:∀ a,a < 256→z4b 8 a=z4b 2 (a / 64)++z4b 6 (a % 64):=by decide +kernel
theorem j24:∀ a,a < 4→∀ b,b < 16→z4b 2 a++z4b 4 b=z4b 6 (a * 16+b):=by decide +kernel
theorem j42:∀ a,a < 16→∀ b,b < 4→z4b 4 a++z4b 2 b=z4b 6 (a * 4+b):=by decide +kernel
theorem j20:∀ a,a < 4→z4b 2 a++[48,48,48,48]=z4b 6 (a * 16):=by decide +kernel
theorem j40:∀ a,a < 16→z4b 4 a++[48,48]=z4b 6 (a * 4):=by decide +kernel
theorem t24:∀ a,a < 64→z4b 6 a=z4b 2 (a / 16)++z4b 4 (a % 16):=by decide +kernel
theorem t42:∀ a,a < 64→z4b 6 a=z4b 4 (a / 4)++z4b 2 (a % 4):=by decide +kernel
theorem i62:∀ a,a < 64→∀ b,b < 4→z4b 6 a++z4b 2 b=z4b 8 (a * 4+b):=by decide +kernel
theorem i44:∀ a,a < 16→∀ b,b < 16→z4b 4 a++z4b 4 b=z4b 8 (a * 16+b):=by decide +kernel
theorem i26:∀ a,a < 4→∀ b,b < 64→z4b 2 a++z4b 6 b=z4b 8 (a * 64+b):=by decide +kernel
abbrev abc:Bs:=[65,66,67,68,69,70,71,72,73,74,75,76,77,78,79,80,81,82,83,84,85,86,87,88,89,90,97,98,99,100,101,102,103,104,105,106,107,108,109,110,111,112,113,114,115,116,117,118,119,120,121,122,48,49,50,51,52,53,54,55,56,57,45,95]
def sgn (v:Nat):UInt8:=abc.getD v 0
theorem w6d (v:Nat) (h:v < 64):at? abc (v:Int)=some (sgn v):=by
 rw [x0h]
 have h1:v < abc.length:=h
 rw [List.getElem?_eq_getElem h1]
 unfold sgn
 rw [List.getD_eq_getElem?_getD,List.getElem?_eq_getElem h1]; rfl
theorem w28 (v:Nat) (h:v < 64):sub? abc (v:Int) (wr ((v:Int)+1))=some [sgn v]:=by
 have:∀ v,v < 64→sub? abc ((v:Nat):Int) (wr (((v:Nat):Int)+1))=some [sgn v]:=by decide +kernel
 exact this v h
theorem i64w {n:Nat} (h:n≤1000000000000):IntKind.wrap .i64 (n:Int)=(n:Int):=IntWalk.i64_in _ (by omega)
theorem x5v (x k:Nat) (hk:k≤16) (h:x≤1000000):shl_ .i64 (x:Int) (k:Int)=((x * 2 ^ k:Nat):Int):=by
 show IntKind.wrap .i64 ((x:Int) * 2 ^ (min (k:Int).toNat IntKind.i64.bits))=_
 have e1:min (k:Int).toNat IntKind.i64.bits=k:=by
  have:IntKind.i64.bits=64:=rfl
  rw [this]; omega
 rw [e1]
 have e2:((x:Int) * 2 ^ k)=((x * 2 ^ k:Nat):Int):=by push_cast; rfl
 rw [e2]
 refine i64w ?_
 have h1:2 ^ k≤2 ^ 16:=Nat.pow_le_pow_right (by decide) hk
 have h2:=Nat.mul_le_mul h h1
 omega
theorem w2o (x k:Nat) (hk:k≤24):shr_ .i64 (x:Int) (k:Int)=((x / 2 ^ k:Nat):Int):=by
 show (x:Int).fdiv (2 ^ (min (k:Int).toNat IntKind.i64.bits))=_
 have e1:min (k:Int).toNat IntKind.i64.bits=k:=by
  have:IntKind.i64.bits=64:=rfl
  rw [this]; omega
 rw [e1,Int.fdiv_eq_ediv_of_nonneg _ (Int.le_of_lt (Int.pow_pos (by decide)))]
 push_cast; rfl
theorem w5s (a b k:Nat) (hb:b < 2 ^ k) (h:a * 2 ^ k+b≤1000000000000):or_ .i64 ((a * 2 ^ k:Nat):Int) (b:Int)=((a * 2 ^ k+b:Nat):Int):=by
 show IntKind.wrap .i64 (((BitVec.ofInt IntKind.i64.bits ((a * 2 ^ k:Nat):Int) ||| BitVec.ofInt IntKind.i64.bits (b:Int)).toNat:Nat):Int)=_
 have hbits:IntKind.i64.bits=64:=rfl
 rw [hbits,BitVec.ofInt_natCast,BitVec.ofInt_natCast,BitVec.toNat_or,BitVec.toNat_ofNat,BitVec.toNat_ofNat,Nat.mod_eq_of_lt (by omega),Nat.mod_eq_of_lt (by omega),Nat.mul_comm a,← Nat.two_pow_add_eq_or_of_lt hb,Nat.mul_comm]
 exact i64w h
theorem w6e (x:Nat) (h:x≤1000000000000):and_ .i64 (x:Int) 63=((x % 64:Nat):Int):=by
 show IntKind.wrap .i64 (((BitVec.ofInt IntKind.i64.bits (x:Int) &&& BitVec.ofInt IntKind.i64.bits ((63:Nat):Int)).toNat:Nat):Int)=_
 have hbits:IntKind.i64.bits=64:=rfl
 rw [hbits,BitVec.ofInt_natCast,BitVec.ofInt_natCast,BitVec.toNat_and,BitVec.toNat_ofNat,BitVec.toNat_ofNat,Nat.mod_eq_of_lt (by omega),Nat.mod_eq_of_lt (by omega),show 63=2 ^ 6 - 1 from rfl,Nat.and_two_pow_sub_one_eq_mod]
 exact i64w (by omega)
def encP:Bs→Bs
 | []=>[]
 | [a]=>[sgn (a.toNat / 4),sgn (a.toNat % 4 * 16)]
 | [a,b]=>[sgn (a.toNat / 4),sgn (a.toNat % 4 * 16+b.toNat / 16),sgn (b.toNat % 16 * 4)]
 | a::b::c::r=>sgn (a.toNat / 4)::sgn (a.toNat % 4 * 16+b.toNat / 16)::sgn (b.toNat % 16 * 4+c.toNat / 64)::sgn (c.toNat % 64)::encP r
theorem y9b:∀ s,(encP s).length≤2 * s.length
 | []=>by simp [encP]
 | [a]=>by simp [encP]
 | [a,b]=>by simp [encP]
 | a::b::c::r=>by have:=y9b r; simp only [encP,List.length_cons]; omega
theorem y6o (s:Bs) (k x:Nat) (c:UInt8) (hx:x < 65536) (h:s[k]?=some c) (hk:k < 3):z6e s k (x:Int)=some (.inl ((x * 256+c.toNat:Nat):Int)):=by
 have h1:=y2u h
 have hc:=c.toNat_lt
 unfold z6e z9c
 rw [if_pos (by simp; omega),h]
 simp only [Option.bind_some]
 rw [i64w (by omega),show ((8:Int))=((8:Nat):Int) from rfl,x5v x 8 (by omega) (by omega),w5s x c.toNat 8 (by omega) (by omega)]
theorem x2g (s:Bs) (k x:Nat) (hx:x < 65536) (h:s.length≤k):z6e s k (x:Int)=some (.inl ((x * 256:Nat):Int)):=by
 unfold z6e z9c
 rw [if_neg (by simp; omega),show ((8:Int))=((8:Nat):Int) from rfl,x5v x 8 (by omega) (by omega)]
theorem w2b (x k:Nat) (l:List Int) (hx:x < 16777216) (hk:k≤3) (hl:l.length+1≤1000000000):z9b (x:Int) k l=some (.inl (l++y0v [sgn (x / 2 ^ (18 - 6 * k) % 64)])):=by
 unfold z9b
 have e1:wr (18 - wr (6 * (k:Int)))=((18 - 6 * k:Nat):Int):=by
  rw [y1g (n:=6 * (k:Int)) (by omega),y1g (by omega)]; omega
 have h2:x / 2 ^ (18 - 6 * k)≤x:=Nat.div_le_self _ _
 rw [e1,if_pos (by omega),w2o x _ (by omega),w6e _ (by omega),w6d _ (Nat.mod_lt _ (by decide))]
 simp only [Option.bind_some]
 rw [if_pos hl]
 rfl
def four (x:Nat):Nat→Bs:=fun n=>(List.range n).map fun k=>sgn (x / 2 ^ (18 - 6 * k) % 64)
theorem w4g (s:Bs) (l:List Int) (x n:Nat) (hn:n=min 3 s.length+1) (hx:x < 16777216) (hl:l.length+4≤1000000000) :
  y1k s l (x:Int)=some (.inl (s.drop (min 3 s.length),l++y0v (four x n))):=by
 unfold y1k
 have e1:wr (min 3 (s.length:Int)+1)=(n:Int):=by rw [y1g (by omega)]; omega
 rw [e1,if_pos (by omega),Int.toNat_natCast]
 have hE:∀ q:List Int,z9d s q=some (.inl (s.drop (min 3 s.length),q)):=by
  intro q
  unfold z9d sub?
  rw [if_pos (by omega)]
  simp only [Option.bind_some]
  congr 3
  rw [List.take_of_length_le (by simp only [List.length_drop]; omega)]
  congr 1; omega
 have key:∀ m k (q:List Int),k+m≤4→q.length+m≤1000000000→rng (fun (k:Nat) (s:(List Int))=>z9b (x:Int) k s) (fun (q:(List Int))=>z9d s q) m k q=some (.inl (s.drop (min 3 s.length),q++y0v ((List.range' k m).map fun k=>sgn (x / 2 ^ (18 - 6 * k) % 64)))):=by
  intro m
  induction m with
  | zero=>intro k q _ _; show z9d s q=_; rw [hE]; simp [y0v]
  | succ m ih =>
   intro k q hk hq
   show (z9b (x:Int) k q).bind _=_
   rw [w2b x k q hx (by omega) (by omega)]
   simp only [Option.bind_some,after]
   rw [ih (k+1) _ (by omega) (by simp [y0v]; omega)]
   simp only [y0v,List.range'_succ,List.map_cons,List.append_assoc,List.map_nil,List.cons_append,List.nil_append]
 rw [key n 0 l (by omega) (by omega)]
 unfold four
 rw [List.range_eq_range']
theorem x9w (a b c:UInt8) (r:Bs) (l:List Int) (hl:l.length+4≤1000000000):z16 (a::b::c::r) l=some (.inl (r,l++y0v [sgn (a.toNat / 4),sgn (a.toNat % 4 * 16+b.toNat / 16),sgn (b.toNat % 16 * 4+c.toNat / 64),sgn (c.toNat % 64)])):=by
 have ha:=a.toNat_lt
 have hb:=b.toNat_lt
 have hc:=c.toNat_lt
 unfold z16
 rw [if_pos (by simp; omega),if_pos (by decide)]
 show rng _ _ 3 0 ((0:Nat):Int)=_
 rw [rng3 (body:=fun (k:Nat) (s:Int)=>z6e (a::b::c::r) k s) (y6o _ 0 0 a (by omega) rfl (by omega)) (y6o _ 1 _ b (by omega) rfl (by omega)) (y6o _ 2 _ c (by omega) rfl (by omega))]
 have hm:min 3 (a::b::c::r).length=3:=by simp only [List.length_cons]; omega
 rw [w4g _ l _ 4 (by omega) (by omega) hl,hm]
 have e:four (((0 * 256+a.toNat) * 256+b.toNat) * 256+c.toNat) 4=[sgn (a.toNat / 4),sgn (a.toNat % 4 * 16+b.toNat / 16),sgn (b.toNat % 16 * 4+c.toNat / 64),sgn (c.toNat % 64)]:=by
  show [sgn (_ / 262144 % 64),sgn (_ / 4096 % 64),sgn (_ / 64 % 64),sgn (_ / 1 % 64)]=_
  congr 1
  ·congr 1; omega
  congr 1
  ·congr 1; omega
  congr 1
  ·congr 1; omega
  congr 1
  congr 1; omega
 rw [e]; rfl
theorem w4d (a b:UInt8) (l:List Int) (hl:l.length+4≤1000000000):z16 [a,b] l=some (.inl ([],l++y0v [sgn (a.toNat / 4),sgn (a.toNat % 4 * 16+b.toNat / 16),sgn (b.toNat % 16 * 4)])):=by
 have ha:=a.toNat_lt
 have hb:=b.toNat_lt
 unfold z16
 rw [if_pos (by simp),if_pos (by decide)]
 show rng _ _ 3 0 ((0:Nat):Int)=_
 rw [rng3 (body:=fun (k:Nat) (s:Int)=>z6e [a,b] k s) (y6o _ 0 0 a (by omega) rfl (by omega)) (y6o _ 1 _ b (by omega) rfl (by omega)) (x2g _ 2 _ (by omega) (by simp))]
 rw [w4g _ l _ 3 (by simp) (by omega) hl]
 have e:four (((0 * 256+a.toNat) * 256+b.toNat) * 256) 3=[sgn (a.toNat / 4),sgn (a.toNat % 4 * 16+b.toNat / 16),sgn (b.toNat % 16 * 4)]:=by
  show [sgn (_ / 262144 % 64),sgn (_ / 4096 % 64),sgn (_ / 64 % 64)]=_
  congr 1
  ·congr 1; omega
  congr 1
  ·congr 1; omega
  congr 1
  congr 1; omega
 rw [e,List.drop_eq_nil_of_le (by simp)]
theorem w4e (a:UInt8) (l:List Int) (hl:l.length+4≤1000000000):z16 [a] l=some (.inl ([],l++y0v [sgn (a.toNat / 4),sgn (a.toNat % 4 * 16)])):=by
 have ha:=a.toNat_lt
 unfold z16
 rw [if_pos (by simp),if_pos (by decide)]
 show rng _ _ 3 0 ((0:Nat):Int)=_
 rw [rng3 (body:=fun (k:Nat) (s:Int)=>z6e [a] k s) (y6o _ 0 0 a (by omega) rfl (by omega)) (x2g _ 1 _ (by omega) (by simp)) (x2g _ 2 _ (by omega) (by simp))]
 rw [w4g _ l _ 2 (by simp) (by omega) hl]
 have e:four (((0 * 256+a.toNat) * 256) * 256) 2=[sgn (a.toNat / 4),sgn (a.toNat % 4 * 16)]:=by
  show [sgn (_ / 262144 % 64),sgn (_ / 4096 % 64)]=_
  congr 1
  ·congr 1; omega
  congr 1
  congr 1; omega
 rw [e,List.drop_eq_nil_of_le (by simp)]
theorem x5f (l:List Int):z16 [] l=some (.inr (strN l)):=by
 unfold z16 y1j
 rw [if_neg (by simp)]; rfl
theorem encI:∀ (s:Bs) (l:List Int),l.length+2 * s.length+4≤1000000000→iter (fun (s:Bs×(List Int))=>z16 s.1 s.2) (s,l)=some (strN (l++y0v (encP s)))
 | [],l,h=>by rw [y35 (body:=fun (s:Bs×(List Int))=>z16 s.1 s.2) (s:=([],_)) (x5f l)]; simp [encP,y0v]
 | [a],l,h=>by rw [y0p (body:=fun (s:Bs×(List Int))=>z16 s.1 s.2) (s:=([a],l)) (w4e a l (by omega)),y35 (body:=fun (s:Bs×(List Int))=>z16 s.1 s.2) (s:=([],_)) (x5f _)]; simp [encP,y0v]
 | [a,b],l,h=>by rw [y0p (body:=fun (s:Bs×(List Int))=>z16 s.1 s.2) (s:=([a,b],l)) (w4d a b l (by omega)),y35 (body:=fun (s:Bs×(List Int))=>z16 s.1 s.2) (s:=([],_)) (x5f _)]; simp [encP,y0v]
 | a::b::c::r,l,h=>by
  simp only [List.length_cons] at h
  rw [y0p (body:=fun (s:Bs×(List Int))=>z16 s.1 s.2) (s:=(a::b::c::r,l)) (x9w a b c r l (by omega)),encI r _ (by simp [y0v]; omega)]
  simp [encP,y0v]
theorem x3v (s:Bs) (h:s.length≤100000000):z69 s=some (encP s):=by
 unfold z69
 rw [encI s [] (by simp only [List.length_nil]; omega),List.nil_append,x6y]
theorem x0a (q:Bs) (out:Bs) (v:Nat) (hv:v < 64) (hq:q≠[]) (hlen:q.length≤1000000000) (hb:q.take 6++([48,48,48,48,48,48]:Bs).drop (min 6 q.length)=z4b 6 v) (ho:out.length+1≤1000000000) :
  z2c q out=some (.inl (q.drop 6,out++[sgn v])):=by
 unfold z2c
 rw [if_pos (by simpa using hq)]
 have hm:min 6 (q.length:Int)=((min 6 q.length:Nat):Int):=by omega
 rw [hm,y7j q _ (by omega)]
 have e2:∀ z:Int,z=6→sub? ([48,48,48,48,48,48]:Bs) ((min 6 q.length:Nat):Int) z=some (([48,48,48,48,48,48]:Bs).drop (min 6 q.length)):=by
  intro z hz
  subst hz
  unfold sub?
  rw [if_pos (by simp; omega),List.take_of_length_le (by simp)]
  simp only [Int.toNat_natCast]
 have e3:sub? q ((min 6 q.length:Nat):Int) (q.length:Int)=some (q.drop 6):=by
  unfold sub?
  rw [if_pos (by omega),List.take_of_length_le (by simp)]
  simp only [Int.toNat_natCast]
  by_cases h6:q.length≤6
  ·rw [List.drop_eq_nil_of_le (show q.length≤6 from h6),List.drop_eq_nil_of_le (by omega)]
  ·rw [show min 6 q.length=6 by omega]
 have e4:q.take (min 6 q.length)=q.take 6:=by
  by_cases h6:q.length≤6
  ·rw [List.take_of_length_le (by omega),List.take_of_length_le h6]
  ·rw [show min 6 q.length=6 by omega]
 rw [e4]
 simp only [Option.bind_some]
 rw [e2]
 rotate_left
 ·rfl
 simp only [Option.bind_some]
 rw [if_pos (by simp; omega),hb,x8z v hv]
 simp only [Option.bind_some]
 rw [w28 v hv]
 simp only [Option.bind_some]
 rw [if_pos (by simpa using ho),e3]
 rfl
theorem y53 (v:Nat) (r out:Bs) (hv:v < 64) (hlen:r.length+6≤1000000000) (ho:out.length+1≤1000000000):z2c (z4b 6 v++r) out=some (.inl (r,out++[sgn v])):=by
 have hl:=z3q 6 v
 rw [x0a (z4b 6 v++r) out v hv (by intro h; rw [List.append_eq_nil_iff] at h; rw [h.1] at hl; simp at hl) (by simp [hl]; omega) (by
  rw [show min 6 (z4b 6 v++r).length=6 by simp [hl],List.take_append_of_le_length (by omega),List.take_of_length_le (by omega)]; simp) ho]
 rw [List.drop_append_of_le_length (by omega),List.drop_eq_nil_of_le (by omega)]; rfl
def y21 (s:Bs):Bs:=s.flatMap fun c=>z4b 8 c.toNat
theorem x5i (s:Bs):(y21 s).length=8 * s.length:=by
 induction s with
 | nil=>rfl
 | cons c s ih=>unfold y21 at ih ⊢; rw [List.flatMap_cons,List.length_append,z3q,ih,List.length_cons]; omega
theorem w52:∀ (s out:Bs),out.length+8 * s.length+10≤1000000000→iter (fun (s:Bs×Bs)=>z2c s.1 s.2) (y21 s,out)=some (out++encP s)
 | [],out,h=>by
  refine y35 (s:=(y21 [],out)) ?_
  show z2c [] out=_
  unfold z2c z6u
  rw [if_neg (by simp)]
  simp [encP]
 | [a],out,h=>by
  have ha:=a.toNat_lt
  simp only [List.length_cons,List.length_nil] at h
  have e:y21 [a]=z4b 6 (a.toNat / 4)++z4b 2 (a.toNat % 4):=by
   unfold y21
   simp only [List.flatMap_cons,List.flatMap_nil,List.append_nil]
   exact s62 _ (by omega)
  rw [e,y0p (y53 _ _ out (by omega) (by simp [z3q]) (by omega)),y0p (x0a _ _ (a.toNat % 4 * 16) (by omega) (fun h=>by have:=z3q 2 (a.toNat % 4); rw [show z4b 2 (a.toNat % 4)=[] from h] at this; cases this) (by simp [z3q]) (by
   rw [List.take_of_length_le (by simp [z3q]),z3q]; exact j20 _ (by omega)) (by simp; omega)),List.drop_eq_nil_of_le (by simp [z3q])]
  rw [y35 (s:=(([]:Bs),_)) (by
   show z2c [] _=_
   unfold z2c z6u
   rw [if_neg (by simp)]; rfl)]
  simp [encP]
 | [a,b],out,h=>by
  have ha:=a.toNat_lt
  have hb:=b.toNat_lt
  simp only [List.length_cons,List.length_nil] at h
  have e:y21 [a,b]=z4b 6 (a.toNat / 4)++(z4b 6 (a.toNat % 4 * 16+b.toNat / 16)++z4b 4 (b.toNat % 16)):=by
   unfold y21
   simp only [List.flatMap_cons,List.flatMap_nil,List.append_nil]
   rw [s62 a.toNat (by omega),s44 b.toNat (by omega),← j24 (a.toNat % 4) (by omega) (b.toNat / 16) (by omega)]
   simp only [List.append_assoc]
  rw [e,y0p (y53 _ _ out (by omega) (by simp [z3q]) (by omega)),y0p (y53 _ _ _ (by omega) (by simp [z3q]) (by simp; omega)),y0p (x0a _ _ (b.toNat % 16 * 4) (by omega) (fun h=>by have:=z3q 4 (b.toNat % 16); rw [show z4b 4 (b.toNat % 16)=[] from h] at this; cases this) (by simp [z3q]) (by
   rw [List.take_of_length_le (by simp [z3q]),z3q]; exact j40 _ (by omega)) (by simp; omega)),List.drop_eq_nil_of_le (by simp [z3q])]
  rw [y35 (s:=(([]:Bs),_)) (by
   show z2c [] _=_
   unfold z2c z6u
   rw [if_neg (by simp)]; rfl)]
  simp [encP]
 | a::b::c::r,out,h=>by
  have ha:=a.toNat_lt
  have hb:=b.toNat_lt
  have hc:=c.toNat_lt
  have hr:=x5i r
  simp only [List.length_cons] at h
  have e:y21 (a::b::c::r)=z4b 6 (a.toNat / 4)++(z4b 6 (a.toNat % 4 * 16+b.toNat / 16)++(z4b 6 (b.toNat % 16 * 4+c.toNat / 64)++(z4b 6 (c.toNat % 64)++y21 r))):=by
   unfold y21
   simp only [List.flatMap_cons]
   rw [s62 a.toNat (by omega),s44 b.toNat (by omega),s26 c.toNat (by omega),← j24 (a.toNat % 4) (by omega) (b.toNat / 16) (by omega),← j42 (b.toNat % 16) (by omega) (c.toNat / 64) (by omega)]
   simp only [List.append_assoc]
  rw [e,y0p (y53 _ _ out (by omega) (by simp [z3q]; omega) (by omega)),y0p (y53 _ _ _ (by omega) (by simp [z3q]; omega) (by simp; omega)),y0p (y53 _ _ _ (by omega) (by simp [z3q]; omega) (by simp; omega)),y0p (y53 _ _ _ (by omega) (by omega) (by simp; omega)),w52 r _ (by simp; omega)]
  simp [encP]
theorem y6n (s:Bs) (h:s.length≤100000000):z5i s=some (encP s):=by
 unfold z5i
 rw [if_pos (by omega)]
 have key:∀ (l:Bs) (k:Nat) (bs:Bs),bs.length+8 * l.length≤1000000000→forL (fun (k:Nat) (x:UInt8) (s:Bs)=>z6t k x s) (fun (s:Bs)=>z6v s) k l bs=z6v (bs++y21 l):=by
  intro l
  induction l with
  | nil=>intro k bs _; show z6v bs=_; simp [y21]
  | cons c l ih =>
   intro k bs hl
   simp only [List.length_cons] at hl
   have e1:sub? (49::z4b 8 c.toNat) 1 ((49::z4b 8 c.toNat).length:Int)=some (z4b 8 c.toNat):=by
    unfold sub?
    rw [if_pos (by simp [z3q]),List.take_of_length_le (by simp)]
    rfl
   have e2:z6t k c bs=some (.inl (bs++z4b 8 c.toNat)):=by
    unfold z6t
    rw [w51 c]
    simp only [Option.bind_some,e1]
    rw [if_pos (by rw [z3q]; omega)]
   show (z6t k c bs).bind _=_
   rw [e2]
   simp only [Option.bind_some,after]
   rw [ih (k+1) _ (by simp only [List.length_append,z3q]; omega)]
   congr 1
   unfold y21
   rw [List.flatMap_cons,List.append_assoc]
 rw [key s 0 [] (by simp only [List.length_nil]; omega),List.nil_append]
 unfold z6v
 rw [w52 s [] (by simp only [List.length_nil]; omega)]; rfl

def ix (c:UInt8):Int:=Lib.indexByte abc c
def iv (c:UInt8):Nat:=(ix c).toNat
theorem w5z (c:UInt8):ix c < 0∨(ix c=(iv c:Int)∧iv c < 64):=by
 have:=y7e (fun c=>decide (ix c < 0∨(ix c=(iv c:Int)∧iv c < 64))) (by decide +kernel) c
 exact of_decide_eq_true this
def gdB (c:UInt8):Bool:=decide (0≤ix c)
theorem gd_t {c:UInt8} (h:gdB c=true):ix c=(iv c:Int)∧iv c < 64:=by
 unfold gdB at h
 have h:=of_decide_eq_true h
 rcases w5z c with h1 | h1
 ·omega
 ·exact h1
theorem gd_f {c:UInt8} (h:gdB c=false):ix c < 0:=by
 unfold gdB at h
 have h:=of_decide_eq_false h
 omega
theorem y9a (c:UInt8):z6r abc (c.toNat:Int)=some (ix c):=by
 unfold z6r ix
 simp
def decP:List Nat→List Nat
 | []=>[]
 | [a]=>[]
 | [a,b]=>[a * 4+b / 16]
 | [a,b,c]=>[a * 4+b / 16,b % 16 * 16+c / 4]
 | a::b::c::d::r=>(a * 4+b / 16)::(b % 16 * 16+c / 4)::(c % 4 * 64+d)::decP r
theorem y7x:∀ s,(decP s).length≤s.length
 | []=>by simp [decP]
 | [a]=>by simp [decP]
 | [a,b]=>by simp [decP]
 | [a,b,c]=>by simp [decP]
 | a::b::c::d::r=>by have:=y7x r; simp only [decP,List.length_cons]; omega
def nI (l:List Nat):List Int:=l.map fun n:Nat=>(n:Int)
theorem w6m {n:Nat} (h:n < 256):IntKind.wrap .u8 (n:Int)=(n:Int):=by
 unfold IntKind.wrap
 simp [IntKind.bits,IntKind.signed]
 omega
theorem z8r (s:Bs) (k x:Nat) (c:UInt8) (hx:x < 262144) (h:s[k]?=some c) (hk:k < 4) (hg:gdB c=true):z3k s k (x:Int)=some (.inl ((x * 64+iv c:Nat):Int)):=by
 have h1:=y2u h
 obtain ⟨h2,h3⟩:=gd_t hg
 unfold z3k z8c
 rw [if_pos (by simp; omega),h]
 simp only [Option.bind_some]
 rw [y9a]
 simp only [Option.bind_some]
 rw [if_neg (by simp; omega),h2,show ((6:Int))=((6:Nat):Int) from rfl,x5v x 6 (by omega) (by omega),w5s x (iv c) 6 (by omega) (by omega)]
theorem y47 (s:Bs) (k:Nat) (x:Int) (c:UInt8) (h:s[k]?=some c) (hk:k < 4) (hg:gdB c=false):z3k s k x=some (.inr (.inr ([],9))):=by
 have h1:=y2u h
 have h2:=gd_f hg
 unfold z3k z8c
 rw [if_pos (by simp; omega),h]
 simp only [Option.bind_some]
 rw [y9a]
 simp only [Option.bind_some]
 rw [if_pos (by simp; omega)]
theorem y6p (s:Bs) (k x:Nat) (hx:x < 262144) (h:s.length≤k):z3k s k (x:Int)=some (.inl ((x * 64:Nat):Int)):=by
 unfold z3k z8c
 rw [if_neg (by simp; omega),show ((6:Int))=((6:Nat):Int) from rfl,x5v x 6 (by omega) (by omega)]
theorem w2c (x k:Nat) (l:List Int) (hx:x < 16777216) (hk:k≤2) (hl:l.length+1≤1000000000):z9e (x:Int) k l=some (.inl (l++nI [x / 2 ^ (16 - 8 * k) % 256])):=by
 unfold z9e
 have e1:wr (16 - wr (8 * (k:Int)))=((16 - 8 * k:Nat):Int):=by
  rw [y1g (n:=8 * (k:Int)) (by omega),y1g (by omega)]; omega
 rw [e1,if_pos (by omega),if_pos hl,w2o x _ (by omega)]
 have e2:IntKind.wrap .u8 ((x / 2 ^ (16 - 8 * k):Nat):Int)=((x / 2 ^ (16 - 8 * k) % 256:Nat):Int):=by
  unfold IntKind.wrap
  simp [IntKind.bits,IntKind.signed]
 rw [e2]; rfl
def x71 (x:Nat):Nat→List Nat:=fun n=>(List.range n).map fun k=>x / 2 ^ (16 - 8 * k) % 256
theorem w2d (s:Bs) (l:List Int) (x n:Nat) (hn:n+1=min 4 s.length) (hx:x < 16777216) (hl:l.length+4≤1000000000) :
  y1l s l (x:Int)=some (.inl (s.drop (min 4 s.length),l++nI (x71 x n))):=by
 unfold y1l
 have e1:wr (min 4 (s.length:Int) - 1)=(n:Int):=by rw [y1g (by omega)]; omega
 rw [e1,if_pos (by omega),Int.toNat_natCast]
 have hE:∀ q:List Int,z9g s q=some (.inl (s.drop (min 4 s.length),q)):=by
  intro q
  unfold z9g sub?
  rw [if_pos (by omega)]
  simp only [Option.bind_some]
  congr 3
  rw [List.take_of_length_le (by simp only [List.length_drop]; omega)]
  congr 1; omega
 have key:∀ m k (q:List Int),k+m≤3→q.length+m≤1000000000→rng (fun (k:Nat) (s:(List Int))=>z9e (x:Int) k s) (fun (q:(List Int))=>z9g s q) m k q=some (.inl (s.drop (min 4 s.length),q++nI ((List.range' k m).map fun k=>x / 2 ^ (16 - 8 * k) % 256))):=by
  intro m
  induction m with
  | zero=>intro k q _ _; show z9g s q=_; rw [hE]; simp [nI]
  | succ m ih =>
   intro k q hk hq
   show (z9e (x:Int) k q).bind _=_
   rw [w2c x k q hx (by omega) (by omega)]
   simp only [Option.bind_some,after]
   rw [ih (k+1) _ (by omega) (by simp [nI]; omega)]
   simp only [nI,List.range'_succ,List.map_cons,List.append_assoc,List.map_nil,List.cons_append,List.nil_append]
 rw [key n 0 l (by omega) (by omega)]
 unfold x71
 rw [List.range_eq_range']
theorem x0m {σ ρ:Type} {body:Nat→σ→Option (σ ⊕ ρ)} {fin:σ→Option ρ} {a:σ} {r:ρ} (h:body 0 a=some (.inr r)∨∃ b,body 0 a=some (.inl b)∧(body 1 b=some (.inr r)∨∃ c,body 1 b=some (.inl c)∧(body 2 c=some (.inr r)∨∃ d,body 2 c=some (.inl d)∧body 3 d=some (.inr r)))):rng body fin 4 0 a=some r:=by
 show (body 0 a).bind _=_
 rcases h with h | ⟨b,h0,h⟩
 ·rw [h]; rfl
 rw [h0]
 show (body 1 b).bind _=_
 rcases h with h | ⟨c,h1,h⟩
 ·rw [h]; rfl
 rw [h1]
 show (body 2 c).bind _=_
 rcases h with h | ⟨d,h2,h⟩
 ·rw [h]; rfl
 rw [h2]
 show (body 3 d).bind _=_
 rw [h]; rfl
theorem x9z (s0 s:Bs) (l:List Int) (hs:s≠[]) (hl:l.length+4≤1000000000) :
  z6f s0 s l=if (s.take 4).all gdB then some (.inl (s.drop 4,l++nI (decP ((s.take 4).map iv)))) else some (.inr ([],9)):=by
 unfold z6f
 have hp:0 < s.length:=by cases s with | nil=>exact absurd rfl hs | cons _ _=>simp
 rw [if_pos (by simp; omega),if_pos (by decide)]
 show rng (fun (k:Nat) (q:Int)=>z3k s k q) _ 4 0 ((0:Nat):Int)=_
 have drop4:s.drop (min 4 s.length)=s.drop 4:=by
  by_cases h6:s.length≤4
  ·rw [List.drop_eq_nil_of_le h6,List.drop_eq_nil_of_le (by omega)]
  ·rw [show min 4 s.length=4 by omega]
 match s,hs with
 | [a],_ =>
  cases ga:gdB a
  ·rw [if_neg (by simp [ga])]
   exact x0m (.inl (y47 _ 0 _ a rfl (by omega) ga))
  ·obtain ⟨_,ha⟩:=gd_t ga
   rw [if_pos (by simp [ga]),rng4 (body:=fun (k:Nat) (q:Int)=>z3k [a] k q) (z8r _ 0 0 a (by omega) rfl (by omega) ga) (y6p _ 1 _ (by omega) (by simp)) (y6p _ 2 _ (by omega) (by simp)) (y6p _ 3 _ (by omega) (by simp))]
   rw [w2d _ l _ 0 (by simp) (by omega) hl,drop4]; rfl
 | [a,b],_ =>
  cases ga:gdB a
  ·rw [if_neg (by simp [ga])]
   exact x0m (.inl (y47 _ 0 _ a rfl (by omega) ga))
  cases gb:gdB b
  ·rw [if_neg (by simp [gb])]
   exact x0m (.inr ⟨_,z8r _ 0 0 a (by omega) rfl (by omega) ga,.inl (y47 _ 1 _ b rfl (by omega) gb)⟩)
  ·obtain ⟨_,ha⟩:=gd_t ga
   obtain ⟨_,hb⟩:=gd_t gb
   rw [if_pos (by simp [ga,gb]),rng4 (body:=fun (k:Nat) (q:Int)=>z3k [a,b] k q) (z8r _ 0 0 a (by omega) rfl (by omega) ga) (z8r _ 1 _ b (by omega) rfl (by omega) gb) (y6p _ 2 _ (by omega) (by simp)) (y6p _ 3 _ (by omega) (by simp))]
   rw [w2d _ l _ 1 (by simp) (by omega) hl,drop4]
   have e:x71 ((((0 * 64+iv a) * 64+iv b) * 64) * 64) 1=[iv a * 4+iv b / 16]:=by
    show [_ / 65536 % 256]=_
    congr 1; omega
   rw [e]; rfl
 | [a,b,c],_ =>
  cases ga:gdB a
  ·rw [if_neg (by simp [ga])]
   exact x0m (.inl (y47 _ 0 _ a rfl (by omega) ga))
  cases gb:gdB b
  ·rw [if_neg (by simp [gb])]
   exact x0m (.inr ⟨_,z8r _ 0 0 a (by omega) rfl (by omega) ga,.inl (y47 _ 1 _ b rfl (by omega) gb)⟩)
  obtain ⟨_,ha⟩:=gd_t ga
  obtain ⟨_,hb⟩:=gd_t gb
  cases gc:gdB c
  ·rw [if_neg (by simp [gc])]
   exact x0m (.inr ⟨_,z8r _ 0 0 a (by omega) rfl (by omega) ga,.inr ⟨_,z8r _ 1 _ b (by omega) rfl (by omega) gb,.inl (y47 _ 2 _ c rfl (by omega) gc)⟩⟩)
  ·obtain ⟨_,hc⟩:=gd_t gc
   rw [if_pos (by simp [ga,gb,gc]),rng4 (body:=fun (k:Nat) (q:Int)=>z3k [a,b,c] k q) (z8r _ 0 0 a (by omega) rfl (by omega) ga) (z8r _ 1 _ b (by omega) rfl (by omega) gb) (z8r _ 2 _ c (by omega) rfl (by omega) gc) (y6p _ 3 _ (by omega) (by simp))]
   rw [w2d _ l _ 2 (by simp) (by omega) hl,drop4]
   have e:x71 ((((0 * 64+iv a) * 64+iv b) * 64+iv c) * 64) 2=[iv a * 4+iv b / 16,iv b % 16 * 16+iv c / 4]:=by
    show [_ / 65536 % 256,_ / 256 % 256]=_
    congr 1
    ·omega
    congr 1; omega
   rw [e]; rfl
 | a::b::c::d::r,_ =>
  cases ga:gdB a
  ·rw [if_neg (by simp [ga])]
   exact x0m (.inl (y47 _ 0 _ a rfl (by omega) ga))
  cases gb:gdB b
  ·rw [if_neg (by simp [gb])]
   exact x0m (.inr ⟨_,z8r _ 0 0 a (by omega) rfl (by omega) ga,.inl (y47 _ 1 _ b rfl (by omega) gb)⟩)
  obtain ⟨_,ha⟩:=gd_t ga
  obtain ⟨_,hb⟩:=gd_t gb
  cases gc:gdB c
  ·rw [if_neg (by simp [gc])]
   exact x0m (.inr ⟨_,z8r _ 0 0 a (by omega) rfl (by omega) ga,.inr ⟨_,z8r _ 1 _ b (by omega) rfl (by omega) gb,.inl (y47 _ 2 _ c rfl (by omega) gc)⟩⟩)
  obtain ⟨_,hc⟩:=gd_t gc
  cases gd:gdB d
  ·rw [if_neg (by simp [gd])]
   exact x0m (.inr ⟨_,z8r _ 0 0 a (by omega) rfl (by omega) ga,.inr ⟨_,z8r _ 1 _ b (by omega) rfl (by omega) gb,.inr ⟨_,z8r _ 2 _ c (by omega) rfl (by omega) gc,y47 _ 3 _ d rfl (by omega) gd⟩⟩⟩)
  ·obtain ⟨_,hd⟩:=gd_t gd
   rw [if_pos (by simp [ga,gb,gc,gd]),rng4 (body:=fun (k:Nat) (q:Int)=>z3k (a::b::c::d::r) k q) (z8r _ 0 0 a (by omega) rfl (by omega) ga) (z8r _ 1 _ b (by omega) rfl (by omega) gb) (z8r _ 2 _ c (by omega) rfl (by omega) gc) (z8r _ 3 _ d (by omega) rfl (by omega) gd)]
   rw [w2d _ l _ 3 (by simp) (by omega) hl,drop4]
   have e:x71 ((((0 * 64+iv a) * 64+iv b) * 64+iv c) * 64+iv d) 3=[iv a * 4+iv b / 16,iv b % 16 * 16+iv c / 4,iv c % 4 * 64+iv d]:=by
    show [_ / 65536 % 256,_ / 256 % 256,_ / 1 % 256]=_
    congr 1
    ·omega
    congr 1
    ·omega
    congr 1; omega
   rw [e]; rfl
theorem x90 (s:List Nat):decP s=decP (s.take 4)++decP (s.drop 4):=by
 match s with
 | []=>rfl
 | [a]=>rfl
 | [a,b]=>rfl
 | [a,b,c]=>rfl
 | a::b::c::d::r=>rfl
theorem decI (s0:Bs):∀ (n:Nat) (s:Bs) (l:List Int),s.length≤n→l.length+s.length+4≤1000000000→iter (fun (s:Bs×(List Int))=>z6f s0 s.1 s.2) (s,l)=if s.all gdB then z9f s0 (l++nI (decP (s.map iv))) else some ([],9):=by
 intro n
 induction n with
 | zero =>
  intro s l h _
  obtain rfl:s=[]:=List.length_eq_zero_iff.1 (by omega)
  rw [y97]
  show (z6f s0 [] l).bind _=_
  unfold z6f
  rw [if_neg (by simp)]
  simp only [List.all_nil,if_true,List.map_nil,decP,nI,List.append_nil]
  cases z9f s0 l <;> rfl
 | succ n ih =>
  intro s l h hb
  by_cases hs:s=[]
  ·exact ih s l (by rw [hs]; simp) hb
  have hr:=x9z s0 s l hs (by omega)
  have hal:s.all gdB=((s.take 4).all gdB && (s.drop 4).all gdB):=by rw [← List.all_append,List.take_append_drop]
  cases hq:(s.take 4).all gdB
  ·rw [hq,if_neg (by simp)] at hr
   rw [y35 (body:=fun (s:Bs×(List Int))=>z6f s0 s.1 s.2) (s:=(s,l)) hr,hal,hq]
   simp
  ·rw [hq,if_pos rfl] at hr
   have hp:0 < s.length:=by cases s with | nil=>exact absurd rfl hs | cons _ _=>simp
   have hd:=y7x ((s.take 4).map iv)
   simp only [List.length_map,List.length_take] at hd
   rw [y0p (body:=fun (s:Bs×(List Int))=>z6f s0 s.1 s.2) (s:=(s,l)) hr,ih (s.drop 4) _ (by simp; omega) (by simp only [nI,List.length_append,List.length_map,List.length_drop]; omega),hal,hq,x90 (s.map iv)]
   simp only [Bool.true_and,nI,List.map_append,List.append_assoc,List.map_take,List.map_drop]
theorem x1m (l:List Int):(strN l).length=l.length:=by simp [strN]
def decF (s:Bs):Bs×Int:=if s.all gdB then (if encP (strN (nI (decP (s.map iv))))≠s then ([],9) else (strN (nI (decP (s.map iv))),0)) else ([],9)
theorem x9y (s:Bs) (h:s.length≤100000000):y17 s=some (decF s):=by
 unfold y17
 rw [decI s s.length s [] (Nat.le_refl _) (by simp only [List.length_nil]; omega),List.nil_append]
 unfold decF
 cases hq:s.all gdB
 ·simp
 ·simp only [if_true]
  unfold z9f
  have hd:=y7x (s.map iv)
  rw [x3v _ (by rw [x1m]; simp [nI]; simp at hd; omega)]
  simp only [Option.bind_some]
  by_cases h1:encP (strN (nI (decP (s.map iv))))=s <;> simp [h1]
theorem y39 (s0:Bs) (v:Nat) (r:Bs) (l:List Int) (hv:v < 256) (hlen:r.length+8≤1000000000) (ho:l.length+1≤1000000000):z1p s0 (z4b 8 v++r) l=some (.inl (r,l++nI [v])):=by
 have hl:=z3q 8 v
 unfold z1p
 rw [if_pos (by simp [hl]; omega),show (8:Int)=((8:Nat):Int) from rfl,y7j _ 8 (by simp [hl])]
 have e2:sub? (z4b 8 v++r) ((8:Nat):Int) ((z4b 8 v++r).length:Int)=some r:=by
  unfold sub?
  rw [if_pos (by simp [hl]; omega),List.take_of_length_le (by simp only [List.length_drop]; omega)]
  simp only [Int.toNat_natCast]
  rw [List.drop_append_of_le_length (by omega),List.drop_eq_nil_of_le (by omega)]; rfl
 have e3:(z4b 8 v++r).take 8=z4b 8 v:=by
  rw [List.take_append_of_le_length (by omega),List.take_of_length_le (by omega)]
 simp only [Option.bind_some]
 rw [e3,x4z v hv]
 simp only [Option.bind_some]
 rw [if_pos ho,e2]
 simp only [Option.bind_some]
 rw [w6m hv]; rfl
theorem y9c (s0:Bs) (q:Bs) (l:List Int) (h:q.length < 8):z1p s0 q l=Option.map .inr (z6w s0 l):=by
 unfold z1p
 rw [if_neg (by simp; omega)]
def y12 (s:List Nat):Bs:=s.flatMap fun v=>z4b 6 v
theorem y9p (s:List Nat):(y12 s).length=6 * s.length:=by
 induction s with
 | nil=>rfl
 | cons c s ih=>unfold y12 at ih ⊢; rw [List.flatMap_cons,List.length_append,z3q,ih,List.length_cons]; omega
theorem y89 {σ ρ:Type} {body:σ→Option (σ ⊕ ρ)} {s:σ} {e:Option ρ} (h:body s=e.map .inr):iter body s=e:=by
 rw [y97,h]
 cases e <;> rfl
theorem w55 (s0:Bs):∀ (s:List Nat) (l:List Int),(∀ v,v∈s→v < 64)→l.length+6 * s.length+10≤1000000000→iter (fun (s:Bs×(List Int))=>z1p s0 s.1 s.2) (y12 s,l)=z6w s0 (l++nI (decP s))
 | [],l,_,h=>by
  rw [y89 (body:=fun (s:Bs×(List Int))=>z1p s0 s.1 s.2) (s:=(y12 [],l)) (y9c s0 [] l (by simp))]
  simp [decP,nI]
 | [a],l,_,h=>by
  rw [y89 (body:=fun (s:Bs×(List Int))=>z1p s0 s.1 s.2) (s:=(y12 [a],l)) (y9c s0 (y12 [a]) l (by rw [y9p]; simp))]
  simp [decP,nI]
 | [a,b],l,hv,h=>by
  have ha:=hv a (by simp)
  have hb:=hv b (by simp)
  simp only [List.length_cons,List.length_nil] at h
  have e:y12 [a,b]=z4b 8 (a * 4+b / 16)++z4b 4 (b % 16):=by
   unfold y12
   simp only [List.flatMap_cons,List.flatMap_nil,List.append_nil]
   rw [t24 b hb,← i62 a ha (b / 16) (by omega),List.append_assoc]
  rw [e,y0p (body:=fun (s:Bs×(List Int))=>z1p s0 s.1 s.2) (s:=(_,l)) (y39 s0 _ _ l (by omega) (by rw [z3q]; omega) (by omega)),y89 (body:=fun (s:Bs×(List Int))=>z1p s0 s.1 s.2) (s:=(_,_)) (y9c s0 _ _ (by rw [z3q]; omega))]
  simp [decP,nI]
 | [a,b,c],l,hv,h=>by
  have ha:=hv a (by simp)
  have hb:=hv b (by simp)
  have hc:=hv c (by simp)
  simp only [List.length_cons,List.length_nil] at h
  have e:y12 [a,b,c]=z4b 8 (a * 4+b / 16)++(z4b 8 (b % 16 * 16+c / 4)++z4b 2 (c % 4)):=by
   unfold y12
   simp only [List.flatMap_cons,List.flatMap_nil,List.append_nil]
   rw [t24 b hb,t42 c hc,← i62 a ha (b / 16) (by omega),← i44 (b % 16) (by omega) (c / 4) (by omega)]
   simp only [List.append_assoc]
  rw [e,y0p (body:=fun (s:Bs×(List Int))=>z1p s0 s.1 s.2) (s:=(_,l)) (y39 s0 _ _ l (by omega) (by simp [z3q]) (by omega)),y0p (body:=fun (s:Bs×(List Int))=>z1p s0 s.1 s.2) (s:=(_,_)) (y39 s0 _ _ _ (by omega) (by simp [z3q]) (by simp [nI]; omega)),y89 (body:=fun (s:Bs×(List Int))=>z1p s0 s.1 s.2) (s:=(_,_)) (y9c s0 _ _ (by rw [z3q]; omega))]
  simp [decP,nI]
 | a::b::c::d::r,l,hv,h=>by
  have ha:=hv a (by simp)
  have hb:=hv b (by simp)
  have hc:=hv c (by simp)
  have hd:=hv d (by simp)
  have hr:=y9p r
  simp only [List.length_cons] at h
  have e:y12 (a::b::c::d::r)=z4b 8 (a * 4+b / 16)++(z4b 8 (b % 16 * 16+c / 4)++(z4b 8 (c % 4 * 64+d)++y12 r)):=by
   unfold y12
   simp only [List.flatMap_cons]
   rw [t24 b hb,t42 c hc,← i62 a ha (b / 16) (by omega),← i44 (b % 16) (by omega) (c / 4) (by omega),← i26 (c % 4) (by omega) d hd]
   simp only [List.append_assoc]
  rw [e,y0p (body:=fun (s:Bs×(List Int))=>z1p s0 s.1 s.2) (s:=(_,l)) (y39 s0 _ _ l (by omega) (by simp [z3q]; omega) (by omega)),y0p (body:=fun (s:Bs×(List Int))=>z1p s0 s.1 s.2) (s:=(_,_)) (y39 s0 _ _ _ (by omega) (by simp [z3q]; omega) (by simp [nI]; omega)),y0p (body:=fun (s:Bs×(List Int))=>z1p s0 s.1 s.2) (s:=(_,_)) (y39 s0 _ _ _ (by omega) (by omega) (by simp [nI]; omega)),w55 s0 r _ (fun v hm=>hv v (by simp [hm])) (by simp [nI]; omega)]
  simp [decP,nI]
theorem x7s (s:Bs) (h:s.length≤10000000):z95 s=some (decF s):=by
 unfold z95
 rw [if_pos (by omega)]
 have key:∀ (l:Bs) (k:Nat) (bs:Bs),bs.length+6 * l.length≤1000000000→forL (fun (k:Nat) (x:UInt8) (s:Bs)=>z4u k x s) (fun (q:Bs)=>z6x s q) k l bs=if l.all gdB then z6x s (bs++y12 (l.map iv)) else some ([],9):=by
  intro l
  induction l with
  | nil=>intro k bs _; show z6x s bs=_; simp [y12]
  | cons c l ih =>
   intro k bs hl
   simp only [List.length_cons] at hl
   show (z4u k c bs).bind _=_
   cases hg:gdB c
   ·have e2:z4u k c bs=some (.inr ([],9)):=by
     have:=gd_f hg
     unfold z4u
     rw [y9a]
     simp only [Option.bind_some]
     rw [if_pos (by simp; omega)]
    rw [e2]
    simp [hg,after]
   ·obtain ⟨h2,h3⟩:=gd_t hg
    have e1:sub? (49::z4b 6 (iv c)) 1 ((49::z4b 6 (iv c)).length:Int)=some (z4b 6 (iv c)):=by
     unfold sub?
     rw [if_pos (by simp [z3q]),List.take_of_length_le (by simp)]
     rfl
    have e2:z4u k c bs=some (.inl (bs++z4b 6 (iv c))):=by
     unfold z4u
     rw [y9a]
     simp only [Option.bind_some]
     rw [if_neg (by simp; omega),h2,w4c _ h3]
     simp only [Option.bind_some,e1]
     rw [if_pos (by rw [z3q]; omega)]
    rw [e2]
    simp only [Option.bind_some,after]
    rw [ih (k+1) _ (by simp only [List.length_append,z3q]; omega)]
    simp only [List.all_cons,hg,Bool.true_and,List.map_cons]
    unfold y12
    rw [List.flatMap_cons,List.append_assoc]
 rw [key s 0 [] (by simp only [List.length_nil]; omega),List.nil_append]
 unfold decF
 cases hq:s.all gdB
 ·simp
 ·simp only [if_true]
  have hv:∀ v,v∈s.map iv→v < 64:=by
   intro v hv
   obtain ⟨c,hc,rfl⟩:=List.mem_map.1 hv
   exact (gd_t (List.all_eq_true.1 hq c hc)).2
  unfold z6x
  rw [w55 s (s.map iv) [] hv (by simp; omega),List.nil_append]
  unfold z6w
  have hd:=y7x (s.map iv)
  rw [y6n _ (by rw [x1m]; simp [nI]; simp at hd; omega)]
  simp only [Option.bind_some]
  by_cases h1:encP (strN (nI (decP (s.map iv))))=s <;> simp [h1]
def hst (h:Int) (c:UInt8):Int:=IntKind.wrap .u64 ((xor_ .u64 h (IntKind.wrap .u64 (c.toNat:Int))) * 1099511628211)
theorem x7y (n:Int):0≤IntKind.wrap .u64 n∧IntKind.wrap .u64 n≤18446744073709551615:=by
 unfold IntKind.wrap
 simp [IntKind.bits,IntKind.signed]
 omega
theorem w38 (l:Bs):∀ h:Int,(0≤h∧h≤18446744073709551615)→0≤l.foldl hst h∧l.foldl hst h≤18446744073709551615:=by
 induction l with
 | nil=>intro h hh; exact hh
 | cons c l ih=>intro h _; exact ih _ (x7y _)
theorem y99 {ρ:Type} {body:Nat→UInt8→Int→Option (Int ⊕ ρ)} {fin:Int→Option ρ} (hb:∀ k c h,body k c h=some (.inl (hst h c))):∀ (l:Bs) (k:Nat) (h:Int),forL body fin k l h=fin (l.foldl hst h)
 | [],k,h=>rfl
 | c::l,k,h=>by
  show (body k c h).bind _=_
  rw [hb]
  exact y99 hb l (k+1) _
theorem w02 (k:Nat) (x:Bs) (h:Int) (hx:x.length≤1000000000):y1i k x h=some (.inl (x.foldl hst h)):=by
 unfold y1i
 rw [if_pos hx,y99 (body:=fun (k:Nat) (x:UInt8) (s:Int)=>y4r k x s) (fun _ _ _=>rfl)]
 rfl
theorem x5o:∀ (ls:List Bs) (k:Nat) (h:Int),(∀ x,x∈ls→x.length≤1000000000)→forL (fun (k:Nat) (x:Bs) (s:Int)=>y1i k x s) (fun (s:Int)=>y0r s) k ls h=y0r (ls.foldl (fun h x=>x.foldl hst h) h)
 | [],k,h,_=>rfl
 | x::ls,k,h,hx=>by
  show (y1i k x h).bind _=_
  rw [w02 k x h (hx x (by simp))]
  exact x5o ls (k+1) _ fun y hy=>hx y (by simp [hy])
def mixH (h:Int):Int:=IntKind.wrap .u64 ((xor_ .u64 h (shr_ .u64 h 29)) * 13787848793156543929)
theorem w50 (h:Int) (hh:0≤h∧h≤18446744073709551615):Ok (z9x h) fun r=>r.length≤100:=by
 unfold z9x
 have hf:Ok (z7l h 16) fun r=>r.length≤16:=by
  unfold z7l z6l z3h z2y z30
  rw [if_neg (by decide),if_neg (by decide),if_neg (by decide)]
  have hp:decide (and_ .i64 16 (wr (16 - 1))=0)=true:=by decide +kernel
  have htz:z7m (IntKind.wrap .u64 16)=some 4:=by decide +kernel
  simp only [hp,Option.bind_some,if_true,htz]
  refine z02 (Q:=fun r=>r.length≤16) (z02 (Q:=fun r=>r.2.length≤16) ?_ fun r hr=>z1z hr) fun r hr=>z1z hr
  have h16p:h.toNat < 16 ^ (16 - 0):=by
   have:(16:Nat) ^ (16 - 0)=18446744073709551616:=by decide
   rw [this]; omega
  refine x82 (fun s:Int×Int×List Int=>∃ v j:Nat,s.1=(v:Int)∧s.2.1=((65 - j:Nat):Int)∧j≤15∧s.2.2.length=65∧v < 16 ^ (16 - j)) (fun s=>s.1.toNat) ?_ _ ⟨h.toNat,0,by simp; omega,rfl,by omega,by simp,h16p⟩
  rintro ⟨v,i,l⟩ ⟨v,j,rfl,rfl,hj,hl,hv⟩
  simp only at hl ⊢
  have e16:IntKind.wrap .u64 16=16:=by decide
  have e15:IntKind.wrap .u64 (16 - 1)=15:=by decide
  have hdig:∀ u:Nat,u < 16→Ok (at? ([48,49,50,51,52,53,54,55,56,57,97,98,99,100,101,102,103,104,105,106,107,108,109,110,111,112,113,114,115,116,117,118,119,120,121,122]:Bs) (u:Int)) fun _=>True:=by
   intro u hu
   rw [x0h,List.getElem?_eq_getElem (by simp; omega)]
   exact ⟨_,rfl,trivial⟩
  have ew:wr (((65 - j:Nat):Int) - 1)=((64 - j:Nat):Int):=by rw [y1g (by omega)]; omega
  unfold z2h
  rw [e16,e15,ew]
  by_cases h16:16≤v
  ·rw [if_pos (by simp; omega)]
   have hj2:j≤14:=by
    rcases Nat.lt_or_ge 14 j with hq | hq
    ·have:j=15:=by omega
     subst this
     simp at hv; omega
    ·exact hq
   have e1:and_ .u64 (v:Int) 15=((v % 16:Nat):Int):=by
    show IntKind.wrap .u64 (((BitVec.ofInt IntKind.u64.bits (v:Int) &&& BitVec.ofInt IntKind.u64.bits ((15:Nat):Int)).toNat:Nat):Int)=_
    have hbits:IntKind.u64.bits=64:=rfl
    have hv2:v < 2 ^ 64:=Nat.lt_of_lt_of_le hv (Nat.le_trans (Nat.pow_le_pow_right (by decide) (show 16 - j≤16 by omega)) (by decide))
    rw [hbits,BitVec.ofInt_natCast,BitVec.ofInt_natCast,BitVec.toNat_and,BitVec.toNat_ofNat,BitVec.toNat_ofNat,Nat.mod_eq_of_lt hv2,Nat.mod_eq_of_lt (by omega),show 15=2 ^ 4 - 1 from rfl,Nat.and_two_pow_sub_one_eq_mod]
    exact w40 (by omega)
   have e4:IntKind.wrap .u64 4=4:=by decide
   have e2:shr_ .u64 (v:Int) 4=((v / 16:Nat):Int):=by
    show (v:Int).fdiv (2 ^ (min (4:Int).toNat IntKind.u64.bits))=_
    have:min (4:Int).toNat IntKind.u64.bits=4:=by decide
    rw [this,Int.fdiv_eq_ediv_of_nonneg _ (by decide)]
    rfl
   rw [e1]
   refine z02 (hdig (v % 16) (Nat.mod_lt _ (by decide))) fun x _=>ok_g (by omega) (ok_g (by omega) ?_)
   rw [e4,e2]
   refine ok_g (by omega) (z1z ⟨⟨v / 16,j+1,rfl,?_,by omega,by simp [hl],?_⟩,?_⟩)
   ·have:64 - j=65 - (j+1):=by omega
    rw [this]
   ·obtain ⟨m,hm⟩:∃ m,16 - j=m+1:=⟨15 - j,by omega⟩
    rw [hm,Nat.pow_succ] at hv
    rw [show 16 - (j+1)=m by omega]
    omega
   ·simp only [Int.toNat_natCast]; omega
  ·rw [if_neg (by simp; omega)]
   have hJ:Ok (z2w false false (v:Int) ((65 - j:Nat):Int) l) fun r=>r.2.length≤16:=by
    unfold z2w z2x z2v
    rw [ew]
    refine z02 (hdig v (by omega)) fun x _=>ok_g (by omega) (ok_g (by omega) ?_)
    rw [if_neg (by decide),if_neg (by decide)]
    refine ok_g (by simp [hl]) (ok_g (by omega) (z1z ?_))
    simp only [strN,List.length_map,List.length_drop,List.length_set,hl,Int.toNat_natCast]
    omega
   obtain ⟨r,h1,h2⟩:=hJ
   rw [h1]
   exact ⟨_,rfl,h2⟩
 refine z02 hf fun r hr => ?_
 have hw:wr (16 - (r.length:Int))=16 - (r.length:Int):=y1g (by omega)
 rw [hw]
 have hr2:Ok (z41 [48] (16 - (r.length:Int))) fun q=>q.length≤16:=by
  unfold z41
  refine ok_g ⟨by omega,by omega,by simp⟩ (z1z ?_)
  rw [Lib.repeatL_length]
  simp only [List.length_cons,List.length_nil]
  omega
 exact z02 hr2 fun q hq=>ok_g (by omega) (z1z (by simp only [List.length_append]; omega))
theorem w27 (h:Int) (hh:0≤h∧h≤18446744073709551615):Ok (y0r h) fun r=>z89 (mixH (mixH (mixH h)))=some r∧r.length≤100:=by
 unfold y0r
 rw [if_pos (by decide),rng3 (body:=fun (k:Nat) (s:Int)=>y4s k s) (b:=mixH h) (c:=mixH (mixH h)) (d:=mixH (mixH (mixH h))) rfl rfl rfl]
 obtain ⟨r,h1,hlen⟩:=w50 (mixH (mixH (mixH h))) (x7y _)
 have e:y4t (mixH (mixH (mixH h)))=z9x (mixH (mixH (mixH h))):=rfl
 rw [e,h1]
 unfold z89
 rw [h1]
 exact ⟨r,rfl,rfl,hlen⟩
theorem w6v (a b:Bs):Lib.join [a,b,a] [0]=a++([0]++(b++([0]++a))):=by
 simp [Lib.join]
theorem x4e (s t:Bs) (hs:s.length≤1000000) (ht:t.length≤1000000):Ok (y1n s t) fun r=>z3w s t=some r∧r.length≤100:=by
 obtain ⟨H,hH⟩:∃ H,(s++([0]++(t++([0]++s)))).foldl hst 14695981039346656037=H:=⟨_,rfl⟩
 have hr:0≤H∧H≤18446744073709551615:=by rw [← hH]; exact w38 _ _ (by decide)
 have e1:y1n s t=y0r H:=by
  unfold y1n
  rw [if_pos (by simp)]
  rw [x5o _ _ _ (by intro x hx; simp at hx; rcases hx with h1 | h1 | h1 | h1 | h1 <;> rw [h1] <;> first | omega | simp)]
  rw [← hH]
  simp only [List.foldl_append,List.foldl_cons,List.foldl_nil]
 have e2:z3w s t=z89 (mixH (mixH (mixH H))):=by
  unfold z3w y1x z3n
  rw [w6v]
  have hlen:(s++([0]++(t++([0]++s)))).length≤1000000000:=by simp; omega
  rw [if_pos ⟨by simp,hlen⟩]
  simp only [Option.bind_some]
  rw [if_pos hlen,y99 (body:=fun (k:Nat) (x:UInt8) (s:Int)=>y1c k x s) (fun _ _ _=>rfl),hH]
  unfold y1d
  simp only [Option.bind_some]
  rw [if_pos (by decide),rng3 (body:=fun (k:Nat) (s:Int)=>y10 k s) (b:=mixH H) (c:=mixH (mixH H)) (d:=mixH (mixH (mixH H))) rfl rfl rfl]
 rw [e1,e2]
 exact w27 H hr
end Go.Proofs.YtkckjgkfljgjpaaGreatDoor
