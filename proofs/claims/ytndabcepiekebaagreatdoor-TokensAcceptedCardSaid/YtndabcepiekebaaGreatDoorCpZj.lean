/- Plain: catalogs of plans: the program and the reference agree on faults, places and prices. -/
import Derived.Test.YtndabcepiekebaaGreatDoorTaZj
import Derived.Test.YtndabcepiekebaaGreatDoorWoZj
import Derived.Test.YtndabcepiekebaaGreatDoorRng
namespace Go.Proofs.YtndabcepiekebaaGreatDoor
set_option linter.unusedVariables false
set_option linter.unusedSimpArgs false
set_option linter.unusedSectionVars false
set_option maxRecDepth 20000
section
variable {σ ρ:Type}
theorem rng3 {body:Nat→σ→Option (σ ⊕ ρ)} {fin:σ→Option ρ} {a b c d:σ} (h0:body 0 a=some (.inl b)) (h1:body 1 b=some (.inl c)) (h2:body 2 c=some (.inl d)):rng body fin 3 0 a=fin d:=by
 show (body 0 a).bind _=_
 rw [h0]
 show (body 1 b).bind _=_
 rw [h1]
 show (body 2 c).bind _=_
 rw [h2]; rfl
theorem rng4 {body:Nat→σ→Option (σ ⊕ ρ)} {fin:σ→Option ρ} {a b c d e:σ} (h0:body 0 a=some (.inl b)) (h1:body 1 b=some (.inl c)) (h2:body 2 c=some (.inl d)) (h3:body 3 d=some (.inl e)):rng body fin 4 0 a=fin e:=by
 show (body 0 a).bind _=_
 rw [h0]
 show (body 1 b).bind _=_
 rw [h1]
 show (body 2 c).bind _=_
 rw [h2]
 show (body 3 d).bind _=_
 rw [h3]; rfl
end
def z4u:Nat→Nat→Bs
 | 0,_=>[]
 | n+1,m=>z4u n (m / 2)++[if m % 2=1 then 49 else 48]
theorem z4c:∀ n m,(z4u n m).length=n
 | 0,m=>rfl
 | n+1,m=>by simp [z4u,z4c n]
theorem fmt2 (n:Int) (r:Bs) (hn:decide (n < 0)=false) (h:itN (fun (s:Int×Int×(List Int))=>z2t 2 false false 1 s.1 s.2.1 s.2.2) 12 (IntKind.wrap .u64 n,65,(List.replicate 65 0))=some ([],r)):z6o n 2=some r:=by
 unfold z6o z74 z30 z3l z4p
 rw [hn]
 have htz:z8m (IntKind.wrap .u64 2)=some 1:=by decide +kernel
 have hp:decide (and_ .i64 2 (wr (2 - 1))=0)=true:=by decide +kernel
 have hi:=y5k.2 ⟨12,h⟩
 simp only [hp,Option.bind_some,if_true,htz,hi,show decide ((2:Int)=10)=false from rfl,show decide ((2:Int) < 2)=false from rfl,show decide ((36:Int) < 2)=false from rfl,Bool.or_self,Bool.false_eq_true,if_false]
theorem w9k (c:UInt8):z6o (wr (256+(IntKind.wrap .i64 (c.toNat:Int)))) 2=some (49::z4u 8 c.toNat):=by
 refine fmt2 _ _ ?_ ?_
 ·have:=y9o (fun c => !decide (wr (256+(IntKind.wrap .i64 (c.toNat:Int))) < 0)) (by decide +kernel) c
  simpa using this
 ·have:=y9o (fun c=>decide (itN (fun (s:Int×Int×(List Int))=>z2t 2 false false 1 s.1 s.2.1 s.2.2) 12 (IntKind.wrap .u64 (wr (256+(IntKind.wrap .i64 (c.toNat:Int)))),65,(List.replicate 65 0))=some ([],49::z4u 8 c.toNat))) (by decide +kernel) c
  exact of_decide_eq_true this
theorem w7s (v:Nat) (h:v < 64):z6o (wr (64+(v:Int))) 2=some (49::z4u 6 v):=by
 refine fmt2 _ _ ?_ ?_
 ·have:∀ v,v < 64→decide (wr (64+((v:Nat):Int)) < 0)=false:=by decide +kernel
  exact this v h
 ·have:∀ v,v < 64→itN (fun (s:Int×Int×(List Int))=>z2t 2 false false 1 s.1 s.2.1 s.2.2) 12 (IntKind.wrap .u64 (wr (64+((v:Nat):Int))),65,(List.replicate 65 0))=some ([],49::z4u 6 v):=by decide +kernel
  exact this v h
theorem w1r (v:Nat) (h:v < 64):z60 (z4u 6 v) 2 64=some ((v:Int),0):=by
 have:∀ v,v < 64→z60 (z4u 6 v) 2 64=some (((v:Nat):Int),0):=by decide +kernel
 exact this v h
theorem x7v (v:Nat) (h:v < 256):z60 (z4u 8 v) 2 64=some ((v:Int),0):=by
 have:∀ v,v < 256→z60 (z4u 8 v) 2 64=some (((v:Nat):Int),0):=by decide +kernel
 exact this v h
theorem s62:∀ a,a < 256→z4u 8 a=z4u 6 (a / 4)++z4u 2 (a % 4):=by decide +kernel
theorem s44:∀ a,a < 256→z4u 8 a=z4u 4 (a / 16)++z4u 4 (a % 16):=by decide +kernel
theorem s26:∀ a,a < 256→z4u 8 a=z4u 2 (a / 64)++z4u 6 (a % 64):=by decide +kernel
theorem j24:∀ a,a < 4→∀ b,b < 16→z4u 2 a++z4u 4 b=z4u 6 (a * 16+b):=by decide +kernel
theorem j42:∀ a,a < 16→∀ b,b < 4→z4u 4 a++z4u 2 b=z4u 6 (a * 4+b):=by decide +kernel
theorem j20:∀ a,a < 4→z4u 2 a++[48,48,48,48]=z4u 6 (a * 16):=by decide +kernel
theorem j40:∀ a,a < 16→z4u 4 a++[48,48]=z4u 6 (a * 4):=by decide +kernel
theorem t24:∀ a,a < 64→z4u 6 a=z4u 2 (a / 16)++z4u 4 (a % 16):=by decide +kernel
theorem t42:∀ a,a < 64→z4u 6 a=z4u 4 (a / 4)++z4u 2 (a % 4):=by decide +kernel
theorem i62:∀ a,a < 64→∀ b,b < 4→z4u 6 a++z4u 2 b=z4u 8 (a * 4+b):=by decide +kernel
theorem i44:∀ a,a < 16→∀ b,b < 16→z4u 4 a++z4u 4 b=z4u 8 (a * 16+b):=by decide +kernel
theorem i26:∀ a,a < 4→∀ b,b < 64→z4u 2 a++z4u 6 b=z4u 8 (a * 64+b):=by decide +kernel
abbrev abc:Bs:=[65,66,67,68,69,70,71,72,73,74,75,76,77,78,79,80,81,82,83,84,85,86,87,88,89,90,97,98,99,100,101,102,103,104,105,106,107,108,109,110,111,112,113,114,115,116,117,118,119,120,121,122,48,49,50,51,52,53,54,55,56,57,45,95]
def sgn (v:Nat):UInt8:=abc.getD v 0
theorem w9x (v:Nat) (h:v < 64):at? abc (v:Int)=some (sgn v):=by
 rw [x0a]
 have h1:v < abc.length:=h
 rw [List.getElem?_eq_getElem h1]
 unfold sgn
 rw [List.getD_eq_getElem?_getD,List.getElem?_eq_getElem h1]; rfl
theorem w6n (v:Nat) (h:v < 64):sub? abc (v:Int) (wr ((v:Int)+1))=some [sgn v]:=by
 have:∀ v,v < 64→sub? abc ((v:Nat):Int) (wr (((v:Nat):Int)+1))=some [sgn v]:=by decide +kernel
 exact this v h
theorem i64w {n:Nat} (h:n≤1000000000000):IntKind.wrap .i64 (n:Int)=(n:Int):=IntWalk.i64_in _ (by omega)
theorem x8p (x k:Nat) (hk:k≤16) (h:x≤1000000):shl_ .i64 (x:Int) (k:Int)=((x * 2 ^ k:Nat):Int):=by
 show IntKind.wrap .i64 ((x:Int) * 2 ^ (min (k:Int).toNat IntKind.i64.bits))=_
 have e1:min (k:Int).toNat IntKind.i64.bits=k:=by
  have:IntKind.i64.bits=64:=rfl
  rw [this]; omega
 rw [e1]
 have e2:((x:Int) * 2 ^ k)=((x * 2 ^ k:Nat):Int):=by push_cast; rfl
 rw [e2]
 refine i64w ?_
 have h1:2 ^ k≤2 ^ 16:=Nat.pow_le_pow_right (by decide) hk
 have h2:=Nat.mul_le_mul h h1
 omega
theorem w56 (x k:Nat) (hk:k≤24):shr_ .i64 (x:Int) (k:Int)=((x / 2 ^ k:Nat):Int):=by
 show (x:Int).fdiv (2 ^ (min (k:Int).toNat IntKind.i64.bits))=_
 have e1:min (k:Int).toNat IntKind.i64.bits=k:=by
  have:IntKind.i64.bits=64:=rfl
  rw [this]; omega
 rw [e1,Int.fdiv_eq_ediv_of_nonneg _ (Int.le_of_lt (Int.pow_pos (by decide)))]
 push_cast; rfl
theorem w86 (a b k:Nat) (hb:b < 2 ^ k) (h:a * 2 ^ k+b≤1000000000000):or_ .i64 ((a * 2 ^ k:Nat):Int) (b:Int)=((a * 2 ^ k+b:Nat):Int):=by
 show IntKind.wrap .i64 (((BitVec.ofInt IntKind.i64.bits ((a * 2 ^ k:Nat):Int) ||| BitVec.ofInt IntKind.i64.bits (b:Int)).toNat:Nat):Int)=_
 have hbits:IntKind.i64.bits=64:=rfl
 rw [hbits,BitVec.ofInt_natCast,BitVec.ofInt_natCast,BitVec.toNat_or,BitVec.toNat_ofNat,BitVec.toNat_ofNat,Nat.mod_eq_of_lt (by omega),Nat.mod_eq_of_lt (by omega),Nat.mul_comm a,← Nat.two_pow_add_eq_or_of_lt hb,Nat.mul_comm]
 exact i64w h
theorem w9y (x:Nat) (h:x≤1000000000000):and_ .i64 (x:Int) 63=((x % 64:Nat):Int):=by
 show IntKind.wrap .i64 (((BitVec.ofInt IntKind.i64.bits (x:Int) &&& BitVec.ofInt IntKind.i64.bits ((63:Nat):Int)).toNat:Nat):Int)=_
 have hbits:IntKind.i64.bits=64:=rfl
 rw [hbits,BitVec.ofInt_natCast,BitVec.ofInt_natCast,BitVec.toNat_and,BitVec.toNat_ofNat,BitVec.toNat_ofNat,Nat.mod_eq_of_lt (by omega),Nat.mod_eq_of_lt (by omega),show 63=2 ^ 6 - 1 from rfl,Nat.and_two_pow_sub_one_eq_mod]
 exact i64w (by omega)
def encP:Bs→Bs
 | []=>[]
 | [a]=>[sgn (a.toNat / 4),sgn (a.toNat % 4 * 16)]
 | [a,b]=>[sgn (a.toNat / 4),sgn (a.toNat % 4 * 16+b.toNat / 16),sgn (b.toNat % 16 * 4)]
 | a::b::c::r=>sgn (a.toNat / 4)::sgn (a.toNat % 4 * 16+b.toNat / 16)::sgn (b.toNat % 16 * 4+c.toNat / 64)::sgn (c.toNat % 64)::encP r
theorem x1p:∀ s,(encP s).length≤2 * s.length
 | []=>by simp [encP]
 | [a]=>by simp [encP]
 | [a,b]=>by simp [encP]
 | a::b::c::r=>by have:=x1p r; simp only [encP,List.length_cons]; omega
theorem y8n (s:Bs) (k x:Nat) (c:UInt8) (hx:x < 65536) (h:s[k]?=some c) (hk:k < 3):z67 s k (x:Int)=some (.inl ((x * 256+c.toNat:Nat):Int)):=by
 have h1:=y1v h
 have hc:=c.toNat_lt
 unfold z67 y0v
 rw [if_pos (by simp; omega),h]
 simp only [Option.bind_some]
 rw [i64w (by omega),show ((8:Int))=((8:Nat):Int) from rfl,x8p x 8 (by omega) (by omega),w86 x c.toNat 8 (by omega) (by omega)]
theorem x5i (s:Bs) (k x:Nat) (hx:x < 65536) (h:s.length≤k):z67 s k (x:Int)=some (.inl ((x * 256:Nat):Int)):=by
 unfold z67 y0v
 rw [if_neg (by simp; omega),show ((8:Int))=((8:Nat):Int) from rfl,x8p x 8 (by omega) (by omega)]
theorem w5q (x k:Nat) (l:List Int) (hx:x < 16777216) (hk:k≤3) (hl:l.length+1≤1000000000):y0u (x:Int) k l=some (.inl (l++y2o [sgn (x / 2 ^ (18 - 6 * k) % 64)])):=by
 unfold y0u
 have e1:wr (18 - wr (6 * (k:Int)))=((18 - 6 * k:Nat):Int):=by
  rw [y3a (n:=6 * (k:Int)) (by omega),y3a (by omega)]; omega
 have h2:x / 2 ^ (18 - 6 * k)≤x:=Nat.div_le_self _ _
 rw [e1,if_pos (by omega),w56 x _ (by omega),w9y _ (by omega),w9x _ (Nat.mod_lt _ (by decide))]
 simp only [Option.bind_some]
 rw [if_pos hl]
 rfl
def four (x:Nat):Nat→Bs:=fun n=>(List.range n).map fun k=>sgn (x / 2 ^ (18 - 6 * k) % 64)
theorem w7w (s:Bs) (l:List Int) (x n:Nat) (hn:n=min 3 s.length+1) (hx:x < 16777216) (hl:l.length+4≤1000000000) :
  y3e s l (x:Int)=some (.inl (s.drop (min 3 s.length),l++y2o (four x n))):=by
 unfold y3e
 have e1:wr (min 3 (s.length:Int)+1)=(n:Int):=by rw [y3a (by omega)]; omega
 rw [e1,if_pos (by omega),Int.toNat_natCast]
 have hE:∀ q:List Int,y0w s q=some (.inl (s.drop (min 3 s.length),q)):=by
  intro q
  unfold y0w sub?
  rw [if_pos (by omega)]
  simp only [Option.bind_some]
  congr 3
  rw [List.take_of_length_le (by simp only [List.length_drop]; omega)]
  congr 1; omega
 have key:∀ m k (q:List Int),k+m≤4→q.length+m≤1000000000→rng (fun (k:Nat) (s:(List Int))=>y0u (x:Int) k s) (fun (q:(List Int))=>y0w s q) m k q=some (.inl (s.drop (min 3 s.length),q++y2o ((List.range' k m).map fun k=>sgn (x / 2 ^ (18 - 6 * k) % 64)))):=by
  intro m
  induction m with
  | zero=>intro k q _ _; show y0w s q=_; rw [hE]; simp [y2o]
  | succ m ih =>
   intro k q hk hq
   show (y0u (x:Int) k q).bind _=_
   rw [w5q x k q hx (by omega) (by omega)]
   simp only [Option.bind_some,after]
   rw [ih (k+1) _ (by omega) (by simp [y2o]; omega)]
   simp only [y2o,List.range'_succ,List.map_cons,List.append_assoc,List.map_nil,List.cons_append,List.nil_append]
 rw [key n 0 l (by omega) (by omega)]
 unfold four
 rw [List.range_eq_range']
theorem w2u (a b c:UInt8) (r:Bs) (l:List Int) (hl:l.length+4≤1000000000):z2i (a::b::c::r) l=some (.inl (r,l++y2o [sgn (a.toNat / 4),sgn (a.toNat % 4 * 16+b.toNat / 16),sgn (b.toNat % 16 * 4+c.toNat / 64),sgn (c.toNat % 64)])):=by
 have ha:=a.toNat_lt
 have hb:=b.toNat_lt
 have hc:=c.toNat_lt
 unfold z2i
 rw [if_pos (by simp; omega),if_pos (by decide)]
 show rng _ _ 3 0 ((0:Nat):Int)=_
 rw [rng3 (body:=fun (k:Nat) (s:Int)=>z67 (a::b::c::r) k s) (y8n _ 0 0 a (by omega) rfl (by omega)) (y8n _ 1 _ b (by omega) rfl (by omega)) (y8n _ 2 _ c (by omega) rfl (by omega))]
 have hm:min 3 (a::b::c::r).length=3:=by simp only [List.length_cons]; omega
 rw [w7w _ l _ 4 (by omega) (by omega) hl,hm]
 have e:four (((0 * 256+a.toNat) * 256+b.toNat) * 256+c.toNat) 4=[sgn (a.toNat / 4),sgn (a.toNat % 4 * 16+b.toNat / 16),sgn (b.toNat % 16 * 4+c.toNat / 64),sgn (c.toNat % 64)]:=by
  show [sgn (_ / 262144 % 64),sgn (_ / 4096 % 64),sgn (_ / 64 % 64),sgn (_ / 1 % 64)]=_
  congr 1
  ·congr 1; omega
  congr 1
  ·congr 1; omega
  congr 1
  ·congr 1; omega
  congr 1
  congr 1; omega
 rw [e]; rfl
theorem w7t (a b:UInt8) (l:List Int) (hl:l.length+4≤1000000000):z2i [a,b] l=some (.inl ([],l++y2o [sgn (a.toNat / 4),sgn (a.toNat % 4 * 16+b.toNat / 16),sgn (b.toNat % 16 * 4)])):=by
 have ha:=a.toNat_lt
 have hb:=b.toNat_lt
 unfold z2i
 rw [if_pos (by simp),if_pos (by decide)]
 show rng _ _ 3 0 ((0:Nat):Int)=_
 rw [rng3 (body:=fun (k:Nat) (s:Int)=>z67 [a,b] k s) (y8n _ 0 0 a (by omega) rfl (by omega)) (y8n _ 1 _ b (by omega) rfl (by omega)) (x5i _ 2 _ (by omega) (by simp))]
 rw [w7w _ l _ 3 (by simp) (by omega) hl]
 have e:four (((0 * 256+a.toNat) * 256+b.toNat) * 256) 3=[sgn (a.toNat / 4),sgn (a.toNat % 4 * 16+b.toNat / 16),sgn (b.toNat % 16 * 4)]:=by
  show [sgn (_ / 262144 % 64),sgn (_ / 4096 % 64),sgn (_ / 64 % 64)]=_
  congr 1
  ·congr 1; omega
  congr 1
  ·congr 1; omega
  congr 1
  congr 1; omega
 rw [e,List.drop_eq_nil_of_le (by simp)]
theorem w7u (a:UInt8) (l:List Int) (hl:l.length+4≤1000000000):z2i [a] l=some (.inl ([],l++y2o [sgn (a.toNat / 4),sgn (a.toNat % 4 * 16)])):=by
 have ha:=a.toNat_lt
 unfold z2i
 rw [if_pos (by simp),if_pos (by decide)]
 show rng _ _ 3 0 ((0:Nat):Int)=_
 rw [rng3 (body:=fun (k:Nat) (s:Int)=>z67 [a] k s) (y8n _ 0 0 a (by omega) rfl (by omega)) (x5i _ 1 _ (by omega) (by simp)) (x5i _ 2 _ (by omega) (by simp))]
 rw [w7w _ l _ 2 (by simp) (by omega) hl]
 have e:four (((0 * 256+a.toNat) * 256) * 256) 2=[sgn (a.toNat / 4),sgn (a.toNat % 4 * 16)]:=by
  show [sgn (_ / 262144 % 64),sgn (_ / 4096 % 64)]=_
  congr 1
  ·congr 1; omega
  congr 1
  congr 1; omega
 rw [e,List.drop_eq_nil_of_le (by simp)]
theorem x76 (l:List Int):z2i [] l=some (.inr (strN l)):=by
 unfold z2i y3d
 rw [if_neg (by simp)]; rfl
theorem encI:∀ (s:Bs) (l:List Int),l.length+2 * s.length+4≤1000000000→iter (fun (s:Bs×(List Int))=>z2i s.1 s.2) (s,l)=some (strN (l++y2o (encP s)))
 | [],l,h=>by rw [y54 (body:=fun (s:Bs×(List Int))=>z2i s.1 s.2) (s:=([],_)) (x76 l)]; simp [encP,y2o]
 | [a],l,h=>by rw [y2e (body:=fun (s:Bs×(List Int))=>z2i s.1 s.2) (s:=([a],l)) (w7u a l (by omega)),y54 (body:=fun (s:Bs×(List Int))=>z2i s.1 s.2) (s:=([],_)) (x76 _)]; simp [encP,y2o]
 | [a,b],l,h=>by rw [y2e (body:=fun (s:Bs×(List Int))=>z2i s.1 s.2) (s:=([a,b],l)) (w7t a b l (by omega)),y54 (body:=fun (s:Bs×(List Int))=>z2i s.1 s.2) (s:=([],_)) (x76 _)]; simp [encP,y2o]
 | a::b::c::r,l,h=>by
  simp only [List.length_cons] at h
  rw [y2e (body:=fun (s:Bs×(List Int))=>z2i s.1 s.2) (s:=(a::b::c::r,l)) (w2u a b c r l (by omega)),encI r _ (by simp [y2o]; omega)]
  simp [encP,y2o]
theorem w2t (s:Bs) (h:s.length≤100000000):y0o s=some (encP s):=by
 unfold y0o
 rw [encI s [] (by simp only [List.length_nil]; omega),List.nil_append,x9p]
theorem x2y (q:Bs) (out:Bs) (v:Nat) (hv:v < 64) (hq:q≠[]) (hlen:q.length≤1000000000) (hb:q.take 6++([48,48,48,48,48,48]:Bs).drop (min 6 q.length)=z4u 6 v) (ho:out.length+1≤1000000000) :
  z2n q out=some (.inl (q.drop 6,out++[sgn v])):=by
 unfold z2n
 rw [if_pos (by simpa using hq)]
 have hm:min 6 (q.length:Int)=((min 6 q.length:Nat):Int):=by omega
 rw [hm,y9t q _ (by omega)]
 have e2:∀ z:Int,z=6→sub? ([48,48,48,48,48,48]:Bs) ((min 6 q.length:Nat):Int) z=some (([48,48,48,48,48,48]:Bs).drop (min 6 q.length)):=by
  intro z hz
  subst hz
  unfold sub?
  rw [if_pos (by simp; omega),List.take_of_length_le (by simp)]
  simp only [Int.toNat_natCast]
 have e3:sub? q ((min 6 q.length:Nat):Int) (q.length:Int)=some (q.drop 6):=by
  unfold sub?
  rw [if_pos (by omega),List.take_of_length_le (by simp)]
  simp only [Int.toNat_natCast]
  by_cases h6:q.length≤6
  ·rw [List.drop_eq_nil_of_le (show q.length≤6 from h6),List.drop_eq_nil_of_le (by omega)]
  ·rw [show min 6 q.length=6 by omega]
 have e4:q.take (min 6 q.length)=q.take 6:=by
  by_cases h6:q.length≤6
  ·rw [List.take_of_length_le (by omega),List.take_of_length_le h6]
  ·rw [show min 6 q.length=6 by omega]
 rw [e4]
 simp only [Option.bind_some]
 rw [e2]
 rotate_left
 ·rfl
 simp only [Option.bind_some]
 rw [if_pos (by simp; omega),hb,w1r v hv]
 simp only [Option.bind_some]
 rw [w6n v hv]
 simp only [Option.bind_some]
 rw [if_pos (by simpa using ho),e3]
 rfl
theorem y7w (v:Nat) (r out:Bs) (hv:v < 64) (hlen:r.length+6≤1000000000) (ho:out.length+1≤1000000000):z2n (z4u 6 v++r) out=some (.inl (r,out++[sgn v])):=by
 have hl:=z4c 6 v
 rw [x2y (z4u 6 v++r) out v hv (by intro h; rw [List.append_eq_nil_iff] at h; rw [h.1] at hl; simp at hl) (by simp [hl]; omega) (by
  rw [show min 6 (z4u 6 v++r).length=6 by simp [hl],List.take_append_of_le_length (by omega),List.take_of_length_le (by omega)]; simp) ho]
 rw [List.drop_append_of_le_length (by omega),List.drop_eq_nil_of_le (by omega)]; rfl
def y4y (s:Bs):Bs:=s.flatMap fun c=>z4u 8 c.toNat
theorem x79 (s:Bs):(y4y s).length=8 * s.length:=by
 induction s with
 | nil=>rfl
 | cons c s ih=>unfold y4y at ih ⊢; rw [List.flatMap_cons,List.length_append,z4c,ih,List.length_cons]; omega
theorem w9l:∀ (s out:Bs),out.length+8 * s.length+10≤1000000000→iter (fun (s:Bs×Bs)=>z2n s.1 s.2) (y4y s,out)=some (out++encP s)
 | [],out,h=>by
  refine y54 (s:=(y4y [],out)) ?_
  show z2n [] out=_
  unfold z2n z7n
  rw [if_neg (by simp)]
  simp [encP]
 | [a],out,h=>by
  have ha:=a.toNat_lt
  simp only [List.length_cons,List.length_nil] at h
  have e:y4y [a]=z4u 6 (a.toNat / 4)++z4u 2 (a.toNat % 4):=by
   unfold y4y
   simp only [List.flatMap_cons,List.flatMap_nil,List.append_nil]
   exact s62 _ (by omega)
  rw [e,y2e (y7w _ _ out (by omega) (by simp [z4c]) (by omega)),y2e (x2y _ _ (a.toNat % 4 * 16) (by omega) (fun h=>by have:=z4c 2 (a.toNat % 4); rw [show z4u 2 (a.toNat % 4)=[] from h] at this; cases this) (by simp [z4c]) (by
   rw [List.take_of_length_le (by simp [z4c]),z4c]; exact j20 _ (by omega)) (by simp; omega)),List.drop_eq_nil_of_le (by simp [z4c])]
  rw [y54 (s:=(([]:Bs),_)) (by
   show z2n [] _=_
   unfold z2n z7n
   rw [if_neg (by simp)]; rfl)]
  simp [encP]
 | [a,b],out,h=>by
  have ha:=a.toNat_lt
  have hb:=b.toNat_lt
  simp only [List.length_cons,List.length_nil] at h
  have e:y4y [a,b]=z4u 6 (a.toNat / 4)++(z4u 6 (a.toNat % 4 * 16+b.toNat / 16)++z4u 4 (b.toNat % 16)):=by
   unfold y4y
   simp only [List.flatMap_cons,List.flatMap_nil,List.append_nil]
   rw [s62 a.toNat (by omega),s44 b.toNat (by omega),← j24 (a.toNat % 4) (by omega) (b.toNat / 16) (by omega)]
   simp only [List.append_assoc]
  rw [e,y2e (y7w _ _ out (by omega) (by simp [z4c]) (by omega)),y2e (y7w _ _ _ (by omega) (by simp [z4c]) (by simp; omega)),y2e (x2y _ _ (b.toNat % 16 * 4) (by omega) (fun h=>by have:=z4c 4 (b.toNat % 16); rw [show z4u 4 (b.toNat % 16)=[] from h] at this; cases this) (by simp [z4c]) (by
   rw [List.take_of_length_le (by simp [z4c]),z4c]; exact j40 _ (by omega)) (by simp; omega)),List.drop_eq_nil_of_le (by simp [z4c])]
  rw [y54 (s:=(([]:Bs),_)) (by
   show z2n [] _=_
   unfold z2n z7n
   rw [if_neg (by simp)]; rfl)]
  simp [encP]
 | a::b::c::r,out,h=>by
  have ha:=a.toNat_lt
  have hb:=b.toNat_lt
  have hc:=c.toNat_lt
  have hr:=x79 r
  simp only [List.length_cons] at h
  have e:y4y (a::b::c::r)=z4u 6 (a.toNat / 4)++(z4u 6 (a.toNat % 4 * 16+b.toNat / 16)++(z4u 6 (b.toNat % 16 * 4+c.toNat / 64)++(z4u 6 (c.toNat % 64)++y4y r))):=by
   unfold y4y
   simp only [List.flatMap_cons]
   rw [s62 a.toNat (by omega),s44 b.toNat (by omega),s26 c.toNat (by omega),← j24 (a.toNat % 4) (by omega) (b.toNat / 16) (by omega),← j42 (b.toNat % 16) (by omega) (c.toNat / 64) (by omega)]
   simp only [List.append_assoc]
  rw [e,y2e (y7w _ _ out (by omega) (by simp [z4c]; omega) (by omega)),y2e (y7w _ _ _ (by omega) (by simp [z4c]; omega) (by simp; omega)),y2e (y7w _ _ _ (by omega) (by simp [z4c]; omega) (by simp; omega)),y2e (y7w _ _ _ (by omega) (by omega) (by simp; omega)),w9l r _ (by simp; omega)]
  simp [encP]
theorem y8m (s:Bs) (h:s.length≤100000000):z61 s=some (encP s):=by
 unfold z61
 rw [if_pos (by omega)]
 have key:∀ (l:Bs) (k:Nat) (bs:Bs),bs.length+8 * l.length≤1000000000→forL (fun (k:Nat) (x:UInt8) (s:Bs)=>z7m k x s) (fun (s:Bs)=>z7o s) k l bs=z7o (bs++y4y l):=by
  intro l
  induction l with
  | nil=>intro k bs _; show z7o bs=_; simp [y4y]
  | cons c l ih =>
   intro k bs hl
   simp only [List.length_cons] at hl
   have e1:sub? (49::z4u 8 c.toNat) 1 ((49::z4u 8 c.toNat).length:Int)=some (z4u 8 c.toNat):=by
    unfold sub?
    rw [if_pos (by simp [z4c]),List.take_of_length_le (by simp)]
    rfl
   have e2:z7m k c bs=some (.inl (bs++z4u 8 c.toNat)):=by
    unfold z7m
    rw [w9k c]
    simp only [Option.bind_some,e1]
    rw [if_pos (by rw [z4c]; omega)]
   show (z7m k c bs).bind _=_
   rw [e2]
   simp only [Option.bind_some,after]
   rw [ih (k+1) _ (by simp only [List.length_append,z4c]; omega)]
   congr 1
   unfold y4y
   rw [List.flatMap_cons,List.append_assoc]
 rw [key s 0 [] (by simp only [List.length_nil]; omega),List.nil_append]
 unfold z7o
 rw [w9l s [] (by simp only [List.length_nil]; omega)]; rfl

def ix (c:UInt8):Int:=Lib.indexByte abc c
def iv (c:UInt8):Nat:=(ix c).toNat
theorem w9f (c:UInt8):ix c < 0∨(ix c=(iv c:Int)∧iv c < 64):=by
 have:=y9o (fun c=>decide (ix c < 0∨(ix c=(iv c:Int)∧iv c < 64))) (by decide +kernel) c
 exact of_decide_eq_true this
def gdB (c:UInt8):Bool:=decide (0≤ix c)
theorem gd_t {c:UInt8} (h:gdB c=true):ix c=(iv c:Int)∧iv c < 64:=by
 unfold gdB at h
 have h:=of_decide_eq_true h
 rcases w9f c with h1 | h1
 ·omega
 ·exact h1
theorem gd_f {c:UInt8} (h:gdB c=false):ix c < 0:=by
 unfold gdB at h
 have h:=of_decide_eq_false h
 omega
theorem x1o (c:UInt8):z7k abc (c.toNat:Int)=some (ix c):=by
 unfold z7k ix
 simp
def decP:List Nat→List Nat
 | []=>[]
 | [a]=>[]
 | [a,b]=>[a * 4+b / 16]
 | [a,b,c]=>[a * 4+b / 16,b % 16 * 16+c / 4]
 | a::b::c::d::r=>(a * 4+b / 16)::(b % 16 * 16+c / 4)::(c % 4 * 64+d)::decP r
theorem y98:∀ s,(decP s).length≤s.length
 | []=>by simp [decP]
 | [a]=>by simp [decP]
 | [a,b]=>by simp [decP]
 | [a,b,c]=>by simp [decP]
 | a::b::c::d::r=>by have:=y98 r; simp only [decP,List.length_cons]; omega
def nI (l:List Nat):List Int:=l.map fun n:Nat=>(n:Int)
theorem w96 {n:Nat} (h:n < 256):IntKind.wrap .u8 (n:Int)=(n:Int):=by
 unfold IntKind.wrap
 simp [IntKind.bits,IntKind.signed]
 omega
theorem z96 (s:Bs) (k x:Nat) (c:UInt8) (hx:x < 262144) (h:s[k]?=some c) (hk:k < 4) (hg:gdB c=true):z35 s k (x:Int)=some (.inl ((x * 64+iv c:Nat):Int)):=by
 have h1:=y1v h
 obtain ⟨h2,h3⟩:=gd_t hg
 unfold z35 z9r
 rw [if_pos (by simp; omega),h]
 simp only [Option.bind_some]
 rw [x1o]
 simp only [Option.bind_some]
 rw [if_neg (by simp; omega),h2,show ((6:Int))=((6:Nat):Int) from rfl,x8p x 6 (by omega) (by omega),w86 x (iv c) 6 (by omega) (by omega)]
theorem y63 (s:Bs) (k:Nat) (x:Int) (c:UInt8) (h:s[k]?=some c) (hk:k < 4) (hg:gdB c=false):z35 s k x=some (.inr (.inr ([],9))):=by
 have h1:=y1v h
 have h2:=gd_f hg
 unfold z35 z9r
 rw [if_pos (by simp; omega),h]
 simp only [Option.bind_some]
 rw [x1o]
 simp only [Option.bind_some]
 rw [if_pos (by simp; omega)]
theorem y8o (s:Bs) (k x:Nat) (hx:x < 262144) (h:s.length≤k):z35 s k (x:Int)=some (.inl ((x * 64:Nat):Int)):=by
 unfold z35 z9r
 rw [if_neg (by simp; omega),show ((6:Int))=((6:Nat):Int) from rfl,x8p x 6 (by omega) (by omega)]
theorem w5r (x k:Nat) (l:List Int) (hx:x < 16777216) (hk:k≤2) (hl:l.length+1≤1000000000):y0x (x:Int) k l=some (.inl (l++nI [x / 2 ^ (16 - 8 * k) % 256])):=by
 unfold y0x
 have e1:wr (16 - wr (8 * (k:Int)))=((16 - 8 * k:Nat):Int):=by
  rw [y3a (n:=8 * (k:Int)) (by omega),y3a (by omega)]; omega
 rw [e1,if_pos (by omega),if_pos hl,w56 x _ (by omega)]
 have e2:IntKind.wrap .u8 ((x / 2 ^ (16 - 8 * k):Nat):Int)=((x / 2 ^ (16 - 8 * k) % 256:Nat):Int):=by
  unfold IntKind.wrap
  simp [IntKind.bits,IntKind.signed]
 rw [e2]; rfl
def w0w (x:Nat):Nat→List Nat:=fun n=>(List.range n).map fun k=>x / 2 ^ (16 - 8 * k) % 256
theorem w5s (s:Bs) (l:List Int) (x n:Nat) (hn:n+1=min 4 s.length) (hx:x < 16777216) (hl:l.length+4≤1000000000) :
  y3f s l (x:Int)=some (.inl (s.drop (min 4 s.length),l++nI (w0w x n))):=by
 unfold y3f
 have e1:wr (min 4 (s.length:Int) - 1)=(n:Int):=by rw [y3a (by omega)]; omega
 rw [e1,if_pos (by omega),Int.toNat_natCast]
 have hE:∀ q:List Int,y0z s q=some (.inl (s.drop (min 4 s.length),q)):=by
  intro q
  unfold y0z sub?
  rw [if_pos (by omega)]
  simp only [Option.bind_some]
  congr 3
  rw [List.take_of_length_le (by simp only [List.length_drop]; omega)]
  congr 1; omega
 have key:∀ m k (q:List Int),k+m≤3→q.length+m≤1000000000→rng (fun (k:Nat) (s:(List Int))=>y0x (x:Int) k s) (fun (q:(List Int))=>y0z s q) m k q=some (.inl (s.drop (min 4 s.length),q++nI ((List.range' k m).map fun k=>x / 2 ^ (16 - 8 * k) % 256))):=by
  intro m
  induction m with
  | zero=>intro k q _ _; show y0z s q=_; rw [hE]; simp [nI]
  | succ m ih =>
   intro k q hk hq
   show (y0x (x:Int) k q).bind _=_
   rw [w5r x k q hx (by omega) (by omega)]
   simp only [Option.bind_some,after]
   rw [ih (k+1) _ (by omega) (by simp [nI]; omega)]
   simp only [nI,List.range'_succ,List.map_cons,List.append_assoc,List.map_nil,List.cons_append,List.nil_append]
 rw [key n 0 l (by omega) (by omega)]
 unfold w0w
 rw [List.range_eq_range']
theorem x3i {σ ρ:Type} {body:Nat→σ→Option (σ ⊕ ρ)} {fin:σ→Option ρ} {a:σ} {r:ρ} (h:body 0 a=some (.inr r)∨∃ b,body 0 a=some (.inl b)∧(body 1 b=some (.inr r)∨∃ c,body 1 b=some (.inl c)∧(body 2 c=some (.inr r)∨∃ d,body 2 c=some (.inl d)∧body 3 d=some (.inr r)))):rng body fin 4 0 a=some r:=by
 show (body 0 a).bind _=_
 rcases h with h | ⟨b,h0,h⟩
 ·rw [h]; rfl
 rw [h0]
 show (body 1 b).bind _=_
 rcases h with h | ⟨c,h1,h⟩
 ·rw [h]; rfl
 rw [h1]
 show (body 2 c).bind _=_
 rcases h with h | ⟨d,h2,h⟩
 ·rw [h]; rfl
 rw [h2]
 show (body 3 d).bind _=_
 rw [h]; rfl
theorem w2x (s0 s:Bs) (l:List Int) (hs:s≠[]) (hl:l.length+4≤1000000000) :
  z68 s0 s l=if (s.take 4).all gdB then some (.inl (s.drop 4,l++nI (decP ((s.take 4).map iv)))) else some (.inr ([],9)):=by
 unfold z68
 have hp:0 < s.length:=by cases s with | nil=>exact absurd rfl hs | cons _ _=>simp
 rw [if_pos (by simp; omega),if_pos (by decide)]
 show rng (fun (k:Nat) (q:Int)=>z35 s k q) _ 4 0 ((0:Nat):Int)=_
 have drop4:s.drop (min 4 s.length)=s.drop 4:=by
  by_cases h6:s.length≤4
  ·rw [List.drop_eq_nil_of_le h6,List.drop_eq_nil_of_le (by omega)]
  ·rw [show min 4 s.length=4 by omega]
 match s,hs with
 | [a],_ =>
  cases ga:gdB a
  ·rw [if_neg (by simp [ga])]
   exact x3i (.inl (y63 _ 0 _ a rfl (by omega) ga))
  ·obtain ⟨_,ha⟩:=gd_t ga
   rw [if_pos (by simp [ga]),rng4 (body:=fun (k:Nat) (q:Int)=>z35 [a] k q) (z96 _ 0 0 a (by omega) rfl (by omega) ga) (y8o _ 1 _ (by omega) (by simp)) (y8o _ 2 _ (by omega) (by simp)) (y8o _ 3 _ (by omega) (by simp))]
   rw [w5s _ l _ 0 (by simp) (by omega) hl,drop4]; rfl
 | [a,b],_ =>
  cases ga:gdB a
  ·rw [if_neg (by simp [ga])]
   exact x3i (.inl (y63 _ 0 _ a rfl (by omega) ga))
  cases gb:gdB b
  ·rw [if_neg (by simp [gb])]
   exact x3i (.inr ⟨_,z96 _ 0 0 a (by omega) rfl (by omega) ga,.inl (y63 _ 1 _ b rfl (by omega) gb)⟩)
  ·obtain ⟨_,ha⟩:=gd_t ga
   obtain ⟨_,hb⟩:=gd_t gb
   rw [if_pos (by simp [ga,gb]),rng4 (body:=fun (k:Nat) (q:Int)=>z35 [a,b] k q) (z96 _ 0 0 a (by omega) rfl (by omega) ga) (z96 _ 1 _ b (by omega) rfl (by omega) gb) (y8o _ 2 _ (by omega) (by simp)) (y8o _ 3 _ (by omega) (by simp))]
   rw [w5s _ l _ 1 (by simp) (by omega) hl,drop4]
   have e:w0w ((((0 * 64+iv a) * 64+iv b) * 64) * 64) 1=[iv a * 4+iv b / 16]:=by
    show [_ / 65536 % 256]=_
    congr 1; omega
   rw [e]; rfl
 | [a,b,c],_ =>
  cases ga:gdB a
  ·rw [if_neg (by simp [ga])]
   exact x3i (.inl (y63 _ 0 _ a rfl (by omega) ga))
  cases gb:gdB b
  ·rw [if_neg (by simp [gb])]
   exact x3i (.inr ⟨_,z96 _ 0 0 a (by omega) rfl (by omega) ga,.inl (y63 _ 1 _ b rfl (by omega) gb)⟩)
  obtain ⟨_,ha⟩:=gd_t ga
  obtain ⟨_,hb⟩:=gd_t gb
  cases gc:gdB c
  ·rw [if_neg (by simp [gc])]
   exact x3i (.inr ⟨_,z96 _ 0 0 a (by omega) rfl (by omega) ga,.inr ⟨_,z96 _ 1 _ b (by omega) rfl (by omega) gb,.inl (y63 _ 2 _ c rfl (by omega) gc)⟩⟩)
  ·obtain ⟨_,hc⟩:=gd_t gc
   rw [if_pos (by simp [ga,gb,gc]),rng4 (body:=fun (k:Nat) (q:Int)=>z35 [a,b,c] k q) (z96 _ 0 0 a (by omega) rfl (by omega) ga) (z96 _ 1 _ b (by omega) rfl (by omega) gb) (z96 _ 2 _ c (by omega) rfl (by omega) gc) (y8o _ 3 _ (by omega) (by simp))]
   rw [w5s _ l _ 2 (by simp) (by omega) hl,drop4]
   have e:w0w ((((0 * 64+iv a) * 64+iv b) * 64+iv c) * 64) 2=[iv a * 4+iv b / 16,iv b % 16 * 16+iv c / 4]:=by
    show [_ / 65536 % 256,_ / 256 % 256]=_
    congr 1
    ·omega
    congr 1; omega
   rw [e]; rfl
 | a::b::c::d::r,_ =>
  cases ga:gdB a
  ·rw [if_neg (by simp [ga])]
   exact x3i (.inl (y63 _ 0 _ a rfl (by omega) ga))
  cases gb:gdB b
  ·rw [if_neg (by simp [gb])]
   exact x3i (.inr ⟨_,z96 _ 0 0 a (by omega) rfl (by omega) ga,.inl (y63 _ 1 _ b rfl (by omega) gb)⟩)
  obtain ⟨_,ha⟩:=gd_t ga
  obtain ⟨_,hb⟩:=gd_t gb
  cases gc:gdB c
  ·rw [if_neg (by simp [gc])]
   exact x3i (.inr ⟨_,z96 _ 0 0 a (by omega) rfl (by omega) ga,.inr ⟨_,z96 _ 1 _ b (by omega) rfl (by omega) gb,.inl (y63 _ 2 _ c rfl (by omega) gc)⟩⟩)
  obtain ⟨_,hc⟩:=gd_t gc
  cases gd:gdB d
  ·rw [if_neg (by simp [gd])]
   exact x3i (.inr ⟨_,z96 _ 0 0 a (by omega) rfl (by omega) ga,.inr ⟨_,z96 _ 1 _ b (by omega) rfl (by omega) gb,.inr ⟨_,z96 _ 2 _ c (by omega) rfl (by omega) gc,y63 _ 3 _ d rfl (by omega) gd⟩⟩⟩)
  ·obtain ⟨_,hd⟩:=gd_t gd
   rw [if_pos (by simp [ga,gb,gc,gd]),rng4 (body:=fun (k:Nat) (q:Int)=>z35 (a::b::c::d::r) k q) (z96 _ 0 0 a (by omega) rfl (by omega) ga) (z96 _ 1 _ b (by omega) rfl (by omega) gb) (z96 _ 2 _ c (by omega) rfl (by omega) gc) (z96 _ 3 _ d (by omega) rfl (by omega) gd)]
   rw [w5s _ l _ 3 (by simp) (by omega) hl,drop4]
   have e:w0w ((((0 * 64+iv a) * 64+iv b) * 64+iv c) * 64+iv d) 3=[iv a * 4+iv b / 16,iv b % 16 * 16+iv c / 4,iv c % 4 * 64+iv d]:=by
    show [_ / 65536 % 256,_ / 256 % 256,_ / 1 % 256]=_
    congr 1
    ·omega
    congr 1
    ·omega
    congr 1; omega
   rw [e]; rfl
theorem w2y (s:List Nat):decP s=decP (s.take 4)++decP (s.drop 4):=by
 match s with
 | []=>rfl
 | [a]=>rfl
 | [a,b]=>rfl
 | [a,b,c]=>rfl
 | a::b::c::d::r=>rfl
theorem decI (s0:Bs):∀ (n:Nat) (s:Bs) (l:List Int),s.length≤n→l.length+s.length+4≤1000000000→iter (fun (s:Bs×(List Int))=>z68 s0 s.1 s.2) (s,l)=if s.all gdB then y0y s0 (l++nI (decP (s.map iv))) else some ([],9):=by
 intro n
 induction n with
 | zero =>
  intro s l h _
  obtain rfl:s=[]:=List.length_eq_zero_iff.1 (by omega)
  rw [x2v]
  show (z68 s0 [] l).bind _=_
  unfold z68
  rw [if_neg (by simp)]
  simp only [List.all_nil,if_true,List.map_nil,decP,nI,List.append_nil]
  cases y0y s0 l <;> rfl
 | succ n ih =>
  intro s l h hb
  by_cases hs:s=[]
  ·exact ih s l (by rw [hs]; simp) hb
  have hr:=w2x s0 s l hs (by omega)
  have hal:s.all gdB=((s.take 4).all gdB && (s.drop 4).all gdB):=by rw [← List.all_append,List.take_append_drop]
  cases hq:(s.take 4).all gdB
  ·rw [hq,if_neg (by simp)] at hr
   rw [y54 (body:=fun (s:Bs×(List Int))=>z68 s0 s.1 s.2) (s:=(s,l)) hr,hal,hq]
   simp
  ·rw [hq,if_pos rfl] at hr
   have hp:0 < s.length:=by cases s with | nil=>exact absurd rfl hs | cons _ _=>simp
   have hd:=y98 ((s.take 4).map iv)
   simp only [List.length_map,List.length_take] at hd
   rw [y2e (body:=fun (s:Bs×(List Int))=>z68 s0 s.1 s.2) (s:=(s,l)) hr,ih (s.drop 4) _ (by simp; omega) (by simp only [nI,List.length_append,List.length_map,List.length_drop]; omega),hal,hq,w2y (s.map iv)]
   simp only [Bool.true_and,nI,List.map_append,List.append_assoc,List.map_take,List.map_drop]
theorem x4v (l:List Int):(strN l).length=l.length:=by simp [strN]
def decF (s:Bs):Bs×Int:=if s.all gdB then (if encP (strN (nI (decP (s.map iv))))≠s then ([],9) else (strN (nI (decP (s.map iv))),0)) else ([],9)
theorem w2w (s:Bs) (h:s.length≤100000000):y33 s=some (decF s):=by
 unfold y33
 rw [decI s s.length s [] (Nat.le_refl _) (by simp only [List.length_nil]; omega),List.nil_append]
 unfold decF
 cases hq:s.all gdB
 ·simp
 ·simp only [if_true]
  unfold y0y
  have hd:=y98 (s.map iv)
  rw [w2t _ (by rw [x4v]; simp [nI]; simp at hd; omega)]
  simp only [Option.bind_some]
  by_cases h1:encP (strN (nI (decP (s.map iv))))=s <;> simp [h1]
theorem y56 (s0:Bs) (v:Nat) (r:Bs) (l:List Int) (hv:v < 256) (hlen:r.length+8≤1000000000) (ho:l.length+1≤1000000000):z1s s0 (z4u 8 v++r) l=some (.inl (r,l++nI [v])):=by
 have hl:=z4c 8 v
 unfold z1s
 rw [if_pos (by simp [hl]; omega),show (8:Int)=((8:Nat):Int) from rfl,y9t _ 8 (by simp [hl])]
 have e2:sub? (z4u 8 v++r) ((8:Nat):Int) ((z4u 8 v++r).length:Int)=some r:=by
  unfold sub?
  rw [if_pos (by simp [hl]; omega),List.take_of_length_le (by simp only [List.length_drop]; omega)]
  simp only [Int.toNat_natCast]
  rw [List.drop_append_of_le_length (by omega),List.drop_eq_nil_of_le (by omega)]; rfl
 have e3:(z4u 8 v++r).take 8=z4u 8 v:=by
  rw [List.take_append_of_le_length (by omega),List.take_of_length_le (by omega)]
 simp only [Option.bind_some]
 rw [e3,x7v v hv]
 simp only [Option.bind_some]
 rw [if_pos ho,e2]
 simp only [Option.bind_some]
 rw [w96 hv]; rfl
theorem x1q (s0:Bs) (q:Bs) (l:List Int) (h:q.length < 8):z1s s0 q l=Option.map .inr (z7p s0 l):=by
 unfold z1s
 rw [if_neg (by simp; omega)]
def y3z (s:List Nat):Bs:=s.flatMap fun v=>z4u 6 v
theorem x2d (s:List Nat):(y3z s).length=6 * s.length:=by
 induction s with
 | nil=>rfl
 | cons c s ih=>unfold y3z at ih ⊢; rw [List.flatMap_cons,List.length_append,z4c,ih,List.length_cons]; omega
theorem x1n {σ ρ:Type} {body:σ→Option (σ ⊕ ρ)} {s:σ} {e:Option ρ} (h:body s=e.map .inr):iter body s=e:=by
 rw [x2v,h]
 cases e <;> rfl
theorem w9o (s0:Bs):∀ (s:List Nat) (l:List Int),(∀ v,v∈s→v < 64)→l.length+6 * s.length+10≤1000000000→iter (fun (s:Bs×(List Int))=>z1s s0 s.1 s.2) (y3z s,l)=z7p s0 (l++nI (decP s))
 | [],l,_,h=>by
  rw [x1n (body:=fun (s:Bs×(List Int))=>z1s s0 s.1 s.2) (s:=(y3z [],l)) (x1q s0 [] l (by simp))]
  simp [decP,nI]
 | [a],l,_,h=>by
  rw [x1n (body:=fun (s:Bs×(List Int))=>z1s s0 s.1 s.2) (s:=(y3z [a],l)) (x1q s0 (y3z [a]) l (by rw [x2d]; simp))]
  simp [decP,nI]
 | [a,b],l,hv,h=>by
  have ha:=hv a (by simp)
  have hb:=hv b (by simp)
  simp only [List.length_cons,List.length_nil] at h
  have e:y3z [a,b]=z4u 8 (a * 4+b / 16)++z4u 4 (b % 16):=by
   unfold y3z
   simp only [List.flatMap_cons,List.flatMap_nil,List.append_nil]
   rw [t24 b hb,← i62 a ha (b / 16) (by omega),List.append_assoc]
  rw [e,y2e (body:=fun (s:Bs×(List Int))=>z1s s0 s.1 s.2) (s:=(_,l)) (y56 s0 _ _ l (by omega) (by rw [z4c]; omega) (by omega)),x1n (body:=fun (s:Bs×(List Int))=>z1s s0 s.1 s.2) (s:=(_,_)) (x1q s0 _ _ (by rw [z4c]; omega))]
  simp [decP,nI]
 | [a,b,c],l,hv,h=>by
  have ha:=hv a (by simp)
  have hb:=hv b (by simp)
  have hc:=hv c (by simp)
  simp only [List.length_cons,List.length_nil] at h
  have e:y3z [a,b,c]=z4u 8 (a * 4+b / 16)++(z4u 8 (b % 16 * 16+c / 4)++z4u 2 (c % 4)):=by
   unfold y3z
   simp only [List.flatMap_cons,List.flatMap_nil,List.append_nil]
   rw [t24 b hb,t42 c hc,← i62 a ha (b / 16) (by omega),← i44 (b % 16) (by omega) (c / 4) (by omega)]
   simp only [List.append_assoc]
  rw [e,y2e (body:=fun (s:Bs×(List Int))=>z1s s0 s.1 s.2) (s:=(_,l)) (y56 s0 _ _ l (by omega) (by simp [z4c]) (by omega)),y2e (body:=fun (s:Bs×(List Int))=>z1s s0 s.1 s.2) (s:=(_,_)) (y56 s0 _ _ _ (by omega) (by simp [z4c]) (by simp [nI]; omega)),x1n (body:=fun (s:Bs×(List Int))=>z1s s0 s.1 s.2) (s:=(_,_)) (x1q s0 _ _ (by rw [z4c]; omega))]
  simp [decP,nI]
 | a::b::c::d::r,l,hv,h=>by
  have ha:=hv a (by simp)
  have hb:=hv b (by simp)
  have hc:=hv c (by simp)
  have hd:=hv d (by simp)
  have hr:=x2d r
  simp only [List.length_cons] at h
  have e:y3z (a::b::c::d::r)=z4u 8 (a * 4+b / 16)++(z4u 8 (b % 16 * 16+c / 4)++(z4u 8 (c % 4 * 64+d)++y3z r)):=by
   unfold y3z
   simp only [List.flatMap_cons]
   rw [t24 b hb,t42 c hc,← i62 a ha (b / 16) (by omega),← i44 (b % 16) (by omega) (c / 4) (by omega),← i26 (c % 4) (by omega) d hd]
   simp only [List.append_assoc]
  rw [e,y2e (body:=fun (s:Bs×(List Int))=>z1s s0 s.1 s.2) (s:=(_,l)) (y56 s0 _ _ l (by omega) (by simp [z4c]; omega) (by omega)),y2e (body:=fun (s:Bs×(List Int))=>z1s s0 s.1 s.2) (s:=(_,_)) (y56 s0 _ _ _ (by omega) (by simp [z4c]; omega) (by simp [nI]; omega)),y2e (body:=fun (s:Bs×(List Int))=>z1s s0 s.1 s.2) (s:=(_,_)) (y56 s0 _ _ _ (by omega) (by omega) (by simp [nI]; omega)),w9o s0 r _ (fun v hm=>hv v (by simp [hm])) (by simp [nI]; omega)]
  simp [decP,nI]
theorem w0i (s:Bs) (h:s.length≤10000000):y1o s=some (decF s):=by
 unfold y1o
 rw [if_pos (by omega)]
 have key:∀ (l:Bs) (k:Nat) (bs:Bs),bs.length+6 * l.length≤1000000000→forL (fun (k:Nat) (x:UInt8) (s:Bs)=>z5h k x s) (fun (q:Bs)=>z7q s q) k l bs=if l.all gdB then z7q s (bs++y3z (l.map iv)) else some ([],9):=by
  intro l
  induction l with
  | nil=>intro k bs _; show z7q s bs=_; simp [y3z]
  | cons c l ih =>
   intro k bs hl
   simp only [List.length_cons] at hl
   show (z5h k c bs).bind _=_
   cases hg:gdB c
   ·have e2:z5h k c bs=some (.inr ([],9)):=by
     have:=gd_f hg
     unfold z5h
     rw [x1o]
     simp only [Option.bind_some]
     rw [if_pos (by simp; omega)]
    rw [e2]
    simp [hg,after]
   ·obtain ⟨h2,h3⟩:=gd_t hg
    have e1:sub? (49::z4u 6 (iv c)) 1 ((49::z4u 6 (iv c)).length:Int)=some (z4u 6 (iv c)):=by
     unfold sub?
     rw [if_pos (by simp [z4c]),List.take_of_length_le (by simp)]
     rfl
    have e2:z5h k c bs=some (.inl (bs++z4u 6 (iv c))):=by
     unfold z5h
     rw [x1o]
     simp only [Option.bind_some]
     rw [if_neg (by simp; omega),h2,w7s _ h3]
     simp only [Option.bind_some,e1]
     rw [if_pos (by rw [z4c]; omega)]
    rw [e2]
    simp only [Option.bind_some,after]
    rw [ih (k+1) _ (by simp only [List.length_append,z4c]; omega)]
    simp only [List.all_cons,hg,Bool.true_and,List.map_cons]
    unfold y3z
    rw [List.flatMap_cons,List.append_assoc]
 rw [key s 0 [] (by simp only [List.length_nil]; omega),List.nil_append]
 unfold decF
 cases hq:s.all gdB
 ·simp
 ·simp only [if_true]
  have hv:∀ v,v∈s.map iv→v < 64:=by
   intro v hv
   obtain ⟨c,hc,rfl⟩:=List.mem_map.1 hv
   exact (gd_t (List.all_eq_true.1 hq c hc)).2
  unfold z7q
  rw [w9o s (s.map iv) [] hv (by simp; omega),List.nil_append]
  unfold z7p
  have hd:=y98 (s.map iv)
  rw [y8m _ (by rw [x4v]; simp [nI]; simp at hd; omega)]
  simp only [Option.bind_some]
  by_cases h1:encP (strN (nI (decP (s.map iv))))=s <;> simp [h1]
def hst (h:Int) (c:UInt8):Int:=IntKind.wrap .u64 ((xor_ .u64 h (IntKind.wrap .u64 (c.toNat:Int))) * 1099511628211)
theorem x66 (n:Int):0≤IntKind.wrap .u64 n∧IntKind.wrap .u64 n≤18446744073709551615:=by
 unfold IntKind.wrap
 simp [IntKind.bits,IntKind.signed]
 omega
theorem w7o (l:Bs):∀ h:Int,(0≤h∧h≤18446744073709551615)→0≤l.foldl hst h∧l.foldl hst h≤18446744073709551615:=by
 induction l with
 | nil=>intro h hh; exact hh
 | cons c l ih=>intro h _; exact ih _ (x66 _)
theorem x2x {ρ:Type} {body:Nat→UInt8→Int→Option (Int ⊕ ρ)} {fin:Int→Option ρ} (hb:∀ k c h,body k c h=some (.inl (hst h c))):∀ (l:Bs) (k:Nat) (h:Int),forL body fin k l h=fin (l.foldl hst h)
 | [],k,h=>rfl
 | c::l,k,h=>by
  show (body k c h).bind _=_
  rw [hb]
  exact x2x hb l (k+1) _
theorem w4f (k:Nat) (x:Bs) (h:Int) (hx:x.length≤1000000000):y3c k x h=some (.inl (x.foldl hst h)):=by
 unfold y3c
 rw [if_pos hx,x2x (body:=fun (k:Nat) (x:UInt8) (s:Int)=>y6l k x s) (fun _ _ _=>rfl)]
 rfl
theorem x8h:∀ (ls:List Bs) (k:Nat) (h:Int),(∀ x,x∈ls→x.length≤1000000000)→forL (fun (k:Nat) (x:Bs) (s:Int)=>y3c k x s) (fun (s:Int)=>y2k s) k ls h=y2k (ls.foldl (fun h x=>x.foldl hst h) h)
 | [],k,h,_=>rfl
 | x::ls,k,h,hx=>by
  show (y3c k x h).bind _=_
  rw [w4f k x h (hx x (by simp))]
  exact x8h ls (k+1) _ fun y hy=>hx y (by simp [hy])
def mixH (h:Int):Int:=IntKind.wrap .u64 ((xor_ .u64 h (shr_ .u64 h 29)) * 13787848793156543929)
theorem w9i (h:Int) (hh:0≤h∧h≤18446744073709551615):Ok (y1d h) fun r=>r.length≤100:=by
 unfold y1d
 have hf:Ok (z8l h 16) fun r=>r.length≤16:=by
  unfold z8l z7g z30 z3l z4p
  rw [if_neg (by decide),if_neg (by decide),if_neg (by decide)]
  have hp:decide (and_ .i64 16 (wr (16 - 1))=0)=true:=by decide +kernel
  have htz:z8m (IntKind.wrap .u64 16)=some 4:=by decide +kernel
  simp only [hp,Option.bind_some,if_true,htz]
  refine z08 (Q:=fun r=>r.length≤16) (z08 (Q:=fun r=>r.2.length≤16) ?_ fun r hr=>z1v hr) fun r hr=>z1v hr
  have h16p:h.toNat < 16 ^ (16 - 0):=by
   have:(16:Nat) ^ (16 - 0)=18446744073709551616:=by decide
   rw [this]; omega
  refine w1t (fun s:Int×Int×List Int=>∃ v j:Nat,s.1=(v:Int)∧s.2.1=((65 - j:Nat):Int)∧j≤15∧s.2.2.length=65∧v < 16 ^ (16 - j)) (fun s=>s.1.toNat) ?_ _ ⟨h.toNat,0,by simp; omega,rfl,by omega,by simp,h16p⟩
  rintro ⟨v,i,l⟩ ⟨v,j,rfl,rfl,hj,hl,hv⟩
  simp only at hl ⊢
  have e16:IntKind.wrap .u64 16=16:=by decide
  have e15:IntKind.wrap .u64 (16 - 1)=15:=by decide
  have hdig:∀ u:Nat,u < 16→Ok (at? ([48,49,50,51,52,53,54,55,56,57,97,98,99,100,101,102,103,104,105,106,107,108,109,110,111,112,113,114,115,116,117,118,119,120,121,122]:Bs) (u:Int)) fun _=>True:=by
   intro u hu
   rw [x0a,List.getElem?_eq_getElem (by simp; omega)]
   exact ⟨_,rfl,trivial⟩
  have ew:wr (((65 - j:Nat):Int) - 1)=((64 - j:Nat):Int):=by rw [y3a (by omega)]; omega
  unfold z2t
  rw [e16,e15,ew]
  by_cases h16:16≤v
  ·rw [if_pos (by simp; omega)]
   have hj2:j≤14:=by
    rcases Nat.lt_or_ge 14 j with hq | hq
    ·have:j=15:=by omega
     subst this
     simp at hv; omega
    ·exact hq
   have e1:and_ .u64 (v:Int) 15=((v % 16:Nat):Int):=by
    show IntKind.wrap .u64 (((BitVec.ofInt IntKind.u64.bits (v:Int) &&& BitVec.ofInt IntKind.u64.bits ((15:Nat):Int)).toNat:Nat):Int)=_
    have hbits:IntKind.u64.bits=64:=rfl
    have hv2:v < 2 ^ 64:=Nat.lt_of_lt_of_le hv (Nat.le_trans (Nat.pow_le_pow_right (by decide) (show 16 - j≤16 by omega)) (by decide))
    rw [hbits,BitVec.ofInt_natCast,BitVec.ofInt_natCast,BitVec.toNat_and,BitVec.toNat_ofNat,BitVec.toNat_ofNat,Nat.mod_eq_of_lt hv2,Nat.mod_eq_of_lt (by omega),show 15=2 ^ 4 - 1 from rfl,Nat.and_two_pow_sub_one_eq_mod]
    exact w8i (by omega)
   have e4:IntKind.wrap .u64 4=4:=by decide
   have e2:shr_ .u64 (v:Int) 4=((v / 16:Nat):Int):=by
    show (v:Int).fdiv (2 ^ (min (4:Int).toNat IntKind.u64.bits))=_
    have:min (4:Int).toNat IntKind.u64.bits=4:=by decide
    rw [this,Int.fdiv_eq_ediv_of_nonneg _ (by decide)]
    rfl
   rw [e1]
   refine z08 (hdig (v % 16) (Nat.mod_lt _ (by decide))) fun x _=>ok_g (by omega) (ok_g (by omega) ?_)
   rw [e4,e2]
   refine ok_g (by omega) (z1v ⟨⟨v / 16,j+1,rfl,?_,by omega,by simp [hl],?_⟩,?_⟩)
   ·have:64 - j=65 - (j+1):=by omega
    rw [this]
   ·obtain ⟨m,hm⟩:∃ m,16 - j=m+1:=⟨15 - j,by omega⟩
    rw [hm,Nat.pow_succ] at hv
    rw [show 16 - (j+1)=m by omega]
    omega
   ·simp only [Int.toNat_natCast]; omega
  ·rw [if_neg (by simp; omega)]
   have hJ:Ok (z3j false false (v:Int) ((65 - j:Nat):Int) l) fun r=>r.2.length≤16:=by
    unfold z3j z3k z3i
    rw [ew]
    refine z08 (hdig v (by omega)) fun x _=>ok_g (by omega) (ok_g (by omega) ?_)
    rw [if_neg (by decide),if_neg (by decide)]
    refine ok_g (by simp [hl]) (ok_g (by omega) (z1v ?_))
    simp only [strN,List.length_map,List.length_drop,List.length_set,hl,Int.toNat_natCast]
    omega
   obtain ⟨r,h1,h2⟩:=hJ
   rw [h1]
   exact ⟨_,rfl,h2⟩
 refine z08 hf fun r hr => ?_
 have hw:wr (16 - (r.length:Int))=16 - (r.length:Int):=y3a (by omega)
 rw [hw]
 have hr2:Ok (z5o [48] (16 - (r.length:Int))) fun q=>q.length≤16:=by
  unfold z5o
  refine ok_g ⟨by omega,by omega,by simp⟩ (z1v ?_)
  rw [Lib.repeatL_length]
  simp only [List.length_cons,List.length_nil]
  omega
 exact z08 hr2 fun q hq=>ok_g (by omega) (z1v (by simp only [List.length_append]; omega))
theorem w6m (h:Int) (hh:0≤h∧h≤18446744073709551615):Ok (y2k h) fun r=>y0s (mixH (mixH (mixH h)))=some r∧r.length≤100:=by
 unfold y2k
 rw [if_pos (by decide),rng3 (body:=fun (k:Nat) (s:Int)=>y6m k s) (b:=mixH h) (c:=mixH (mixH h)) (d:=mixH (mixH (mixH h))) rfl rfl rfl]
 obtain ⟨r,h1,hlen⟩:=w9i (mixH (mixH (mixH h))) (x66 _)
 have e:y6n (mixH (mixH (mixH h)))=y1d (mixH (mixH (mixH h))):=rfl
 rw [e,h1]
 unfold y0s
 rw [h1]
 exact ⟨r,rfl,rfl,hlen⟩
theorem v0l (a b:Bs):Lib.join [a,b,a] [0]=a++([0]++(b++([0]++a))):=by
 simp [Lib.join]
theorem x7b (s t:Bs) (hs:s.length≤1000000) (ht:t.length≤1000000):Ok (y43 s t) fun r=>z4l s t=some r∧r.length≤100:=by
 obtain ⟨H,hH⟩:∃ H,(s++([0]++(t++([0]++s)))).foldl hst 14695981039346656037=H:=⟨_,rfl⟩
 have hr:0≤H∧H≤18446744073709551615:=by rw [← hH]; exact w7o _ _ (by decide)
 have e1:y43 s t=y2k H:=by
  unfold y43
  rw [if_pos (by simp)]
  rw [x8h _ _ _ (by intro x hx; simp at hx; rcases hx with h1 | h1 | h1 | h1 | h1 <;> rw [h1] <;> first | omega | simp)]
  rw [← hH]
  simp only [List.foldl_append,List.foldl_cons,List.foldl_nil]
 have e2:z4l s t=y0s (mixH (mixH (mixH H))):=by
  unfold z4l y3r z5z
  rw [v0l]
  have hlen:(s++([0]++(t++([0]++s)))).length≤1000000000:=by simp; omega
  rw [if_pos ⟨by simp,hlen⟩]
  simp only [Option.bind_some]
  rw [if_pos hlen,x2x (body:=fun (k:Nat) (x:UInt8) (s:Int)=>y28 k x s) (fun _ _ _=>rfl),hH]
  unfold y29
  simp only [Option.bind_some]
  rw [if_pos (by decide),rng3 (body:=fun (k:Nat) (s:Int)=>y3v k s) (b:=mixH H) (c:=mixH (mixH H)) (d:=mixH (mixH (mixH H))) rfl rfl rfl]
 rw [e1,e2]
 exact w6m H hr
end Go.Proofs.YtndabcepiekebaaGreatDoor
namespace Go.Proofs.YtndabcepiekebaaGreatDoor
set_option linter.unusedVariables false
set_option linter.unusedSimpArgs false
set_option linter.unusedSectionVars false
set_option maxRecDepth 20000
theorem w3i (v:Int) (l:List z0i):∀ n,n≤l.length→Ok (back (fun (k:Nat) (x:z0i) (s:Unit)=>z4j v k x) (fun (s:Unit)=>y0e) l n ()) fun r=>r.2=false→r.1.Id=[]
 | 0,_=>z1v fun _=>rfl
 | n+1,h=>by
  show Ok ((l[n]?).bind _) _
  rw [List.getElem?_eq_getElem (by omega)]
  show Ok ((z4j v n l[n]).bind _) _
  unfold z4j
  split
  ·exact z1v fun h=>by cases h
  ·exact w3i v l n (by omega)
theorem w1d (l:List z0i) (hl:SgB l) (v:Int):Ok (z5c l v) fun r=>r.2=false→r.1.Id=[]:=by
 unfold z5c
 have:=hl.len
 exact ok_g (by omega) (w3i v l _ (Nat.le_refl _))
noncomputable def sgAt (l:List z0i) (v:Int):z0i×Bool:=(z5c l v).getD (⟨[],[],0,0,0⟩,false)
theorem w1f (l:List z0i) (hl:SgB l) (v:Int):z5c l v=some (sgAt l v)∧((sgAt l v).2=false→(sgAt l v).1.Id=[]):=by
 obtain ⟨r,h1,h2⟩:=w1d l hl v
 unfold sgAt
 rw [h1]
 exact ⟨rfl,h2⟩
end Go.Proofs.YtndabcepiekebaaGreatDoor
namespace Go.Proofs.YtndabcepiekebaaGreatDoor
set_option linter.unusedVariables false
set_option linter.unusedSimpArgs false
set_option linter.unusedSectionVars false
set_option maxRecDepth 20000
theorem CSm.cl {c:z0e} (h:CSm c):ClB c:=
 ⟨by have:=h.id; omega,by have:=h.subject; omega,by have:=h.issuer; omega,by have:=h.parent; omega,⟨by have:=h.aud.1; omega,fun x hx=>by have:=h.aud.2 x hx; omega⟩,⟨by have:=h.sc.1; omega,fun x hx=>by have:=h.sc.2 x hx; omega⟩⟩
theorem w88 (v:Int):y04 v=some (if momP v=true then 0 else 1):=by
 unfold y04
 rw [x72]
 simp only [Option.bind_some]
 cases momP v <;> rfl
def cwF (c:z0e):Bs×Int:=if clF c≠0 then ([],clF c) else if 4000 < (txC c).length then ([],2) else (txC c,0)
theorem w73 (c:z0e):(cwF c).1.length≤4000:=by
 unfold cwF
 split
 ·simp
 ·split
  ·simp
  ·simp only; omega
theorem w4t {l:List z0i} (hl:SgB l) (v:Int):(sgAt l v).2=true→(sgAt l v).1.Id.length≤1000∧(sgAt l v).1.Secret.length≤1000:=by
 have key:∀ n,n≤l.length→Ok (back (fun (k:Nat) (x:z0i) (s:Unit)=>z4j v k x) (fun (s:Unit)=>y0e) l n ()) fun r=>r.2=true→r.1.Id.length≤1000∧r.1.Secret.length≤1000:=by
  intro n
  induction n with
  | zero=>intro _; exact z1v (fun h=>by cases h)
  | succ n ih =>
   intro h
   show Ok ((l[n]?).bind _) _
   rw [List.getElem?_eq_getElem (by omega)]
   show Ok ((z4j v n l[n]).bind _) _
   have hk:=hl.key l[n] (List.getElem_mem (by omega))
   unfold z4j
   split
   ·exact z1v fun _=>hk
   ·exact ih (by omega)
 obtain ⟨r,h1,h2⟩:=key l.length (Nat.le_refl _)
 have h3:z5c l v=some r:=by
  unfold z5c
  rw [if_pos (by have:=hl.len; omega)]
  exact h1
 have h4:=(w1f l hl v).1
 rw [h3] at h4
 have h5:r=sgAt l v:=Option.some.inj h4
 rw [← h5]; exact h2
theorem w5t (s:Bs):(decF s).1.length≤s.length:=by
 have h1:=y98 (s.map iv)
 simp only [List.length_map] at h1
 unfold decF
 split
 ·split
  ·simp
  ·simp only [x4v,nI,List.length_map]; exact h1
 ·simp
def opE (x:z0i) (v:Int) (q:z0e×Int×Int):z0e×Int:=if q.2.2≠0 then (y66,q.2.2) else if v < x.From∨x.Until≤v then (y66,11) else (q.1,0)
theorem w5a {l:List z0i} (hl:SgB l) (t:Bs) (ht:t.length≤400000) (v:Int):∃ r,y19 l t v=some r∧ClB r.1∧y5h l t v=some (if sgF l≠0 then (y66,sgF l) else r):=by
 unfold y5h y19
 rw [w29 l hl]
 simp only [Option.bind_some,w88,x6g]
 have hsp:=x1g t 46 (by omega)
 have hlen:=y6t 46 t
 have hpc:=y5e 46 t
 rw [hsp]
 simp only [Option.bind_some]
 generalize spl 46 t=w at hlen hpc
 -- the rest,both sides
 have main:∃ r,(if (!momP v)=true then some ((z0e.mk [] [] [] [] [] [] 0 0),(1:Int)) else if decide ((w.length:Int)≠3)=true then z64 l v w true else (w[0]?).bind fun (x11:Bs)=>(z3d x11).bind fun (r13:(Bool))=>z64 l v w (!r13))=some r∧ClB r.1 ∧
   (if decide ((if momP v=true then (0:Int) else 1)≠0)=true then some ((z0e.mk [] [] [] [] [] [] 0 0),(if momP v=true then (0:Int) else 1)) else if decide ((w.length:Int)≠3)=true then y1f l v w true else (w[0]?).bind fun (x14:Bs)=>(z6p x14).bind fun (r16:(Bool))=>y1f l v w (!r16))=some r:=by
  have c2:decide ((if momP v=true then (0:Int) else 1)≠0) = !momP v:=by cases momP v <;> rfl
  rw [c2]
  cases hm:momP v
  ·simp only [Bool.not_false,if_true]
   exact ⟨(y66,1),rfl,y2h,rfl⟩
  ·simp only [Bool.not_true,Bool.false_eq_true,if_false]
   have cc:decide ((w.length:Int)≠3)=decide (w.length≠3):=by
    apply decide_eq_decide.2
    constructor <;> (intro h h'; apply h; omega)
   rw [cc]
   by_cases h3:w.length=3
   ·obtain ⟨a,b,c,rfl⟩:∃ a b c,w=[a,b,c]:=by
     match w,h3 with
     | [a,b,c],_=>exact ⟨a,b,c,rfl⟩
    simp only [List.length_cons,List.length_nil,Nat.zero_add,Nat.reduceAdd,ne_eq,not_true_eq_false,decide_false,Bool.false_eq_true,if_false]
    have la:=hpc a (by simp)
    have lb:=hpc b (by simp)
    simp only [List.getElem?_cons_zero,Option.bind_some,y39 a (by omega),y7y a (by omega)]
    cases hk:keyP a
    ·exact ⟨(y66,9),rfl,y2h,rfl⟩
    ·unfold z64 y1f
     rw [if_neg (by simp),if_neg (by simp)]
     have i1:z1n l (fun (a0:z0i)=>z9c a0 [a,b,c])=some (fdx (fun x:z0i=>decide (x.Id=a)) 0 l):=
      x2w l (p:=fun a0=>z9c a0 [a,b,c]) (fun x=>decide (x.Id=a)) (by have:=hl.len; omega) fun x _=>rfl
     have i2:z1n l (fun (a0:z0i)=>y22 a0 [a,b,c])=some (fdx (fun x:z0i=>decide (x.Id=a)) 0 l):=
      x2w l (p:=fun a0=>y22 a0 [a,b,c]) (fun x=>decide (x.Id=a)) (by have:=hl.len; omega) fun x _=>rfl
     rw [i1,i2]
     simp only [Option.bind_some]
     have hneg:=x75 (fun x:z0i=>decide (x.Id=a)) l
     by_cases hany:(l.any fun x:z0i=>decide (x.Id=a))=true
     ·obtain ⟨q0,x,q1,q2,q3⟩:=w6b (fun x:z0i=>decide (x.Id=a)) l hany
      rw [hneg,hany]
      simp only [Bool.not_true,Bool.false_eq_true,if_false,q1,Option.bind_some,List.getElem?_cons_zero,List.getElem?_cons_succ]
      have hxk:=hl.key x (List.mem_of_getElem? q2)
      rw [if_pos (by simp; omega),if_pos (by simp; omega),if_pos (by simp; omega),if_pos (by simp; omega)]
      obtain ⟨s,s1,s2,s3⟩:=x7b x.Secret ((a++[46])++b) (by omega) (by simp; omega)
      rw [s1,s2]
      simp only [Option.bind_some]
      by_cases hsum:s=c
      ·rw [if_neg (by simpa using hsum),if_neg (by simpa using hsum),w2w b (by omega),w0i b (by omega)]
       simp only [Option.bind_some]
       have hdl:=w5t b
       by_cases hd:(decF b).2=0
       ·rw [if_neg (by simpa using hd),if_neg (by simpa using hd),x7s _ (by omega),x7r _ (by omega)]
        simp only [Option.bind_some]
        have hq:=w82 (decF b).1
        generalize rdT (decF b).1=q at hq
        refine ⟨opE x v q,?_,?_,?_⟩
        ·unfold opE z8e z94 y66
         by_cases e0:q.2.2=0 <;> by_cases e1:x.From≤v <;> by_cases e2:v < x.Until <;> simp [e0,e1,e2] <;> (try omega)
         all_goals (first | (intro hh; omega) | (split <;> first | rfl | omega) | skip)
        ·unfold opE
         split
         ·exact y2h
         ·split
          ·exact y2h
          ·exact hq
        ·unfold opE y3n y66
         by_cases e0:q.2.2=0 <;> by_cases e1:v < x.From <;> by_cases e2:x.Until≤v <;> simp [e0,e1,e2]
       ·rw [if_pos (by simpa using hd),if_pos (by simpa using hd)]
        exact ⟨_,rfl,y2h,rfl⟩
      ·rw [if_pos (by simpa using hsum),if_pos (by simpa using hsum)]
       exact ⟨_,rfl,y2h,rfl⟩
     ·have hany':(l.any fun x:z0i=>decide (x.Id=a))=false:=by simpa using hany
      rw [hneg,hany']
      simp only [Bool.not_false,if_true]
      exact ⟨_,rfl,y2h,rfl⟩
   ·have c3:decide (w.length≠3)=true:=by simpa using h3
    simp only [c3,if_true]
    exact ⟨(y66,9),rfl,y2h,rfl⟩
 obtain ⟨r,m1,m2,m3⟩:=main
 refine ⟨r,m1,m2,?_⟩
 by_cases h0:sgF l=0
 ·rw [if_neg (by simpa using h0),if_neg (not_not_intro h0)]
  exact m3
 ·rw [if_pos (by simpa using h0),if_pos h0]
  rfl
theorem w2h {l:List z0i} (hl:SgB l) {c:z0e} (hc:ClB c) (v:Int):Ok (y1n l c v) fun r=>r.1.length≤10000:=by
 have e2:z6j c=some (cwF c):=v0g c hc
 have hw:=w73 c
 have hk:=w4t hl v
 unfold y1n
 rw [e2]
 simp only [Option.bind_some,x6g,(w1f l hl v).1]
 refine y4d (fun _=>z1v (by simp)) (fun _=>y4d (fun _=>z1v (by simp)) (fun _=>y4d (fun _=>z1v (by simp)) (fun h=>y4d (fun _=>z1v (by simp)) (fun _ => ?_))))
 have hs:(sgAt l v).2=true:=by
  cases hq:(sgAt l v).2
  ·rw [hq] at h; exact absurd rfl h
  ·rfl
 obtain ⟨k1,k2⟩:=hk hs
 have hel:=x1p (cwF c).1
 refine ok_g (by simp; omega) ?_
 rw [y8m _ (show (cwF c).1.length≤100000000 by omega)]
 simp only [Option.bind_some]
 refine ok_g (by simp; omega) (ok_g (by simp; omega) ?_)
 obtain ⟨r,r1,r2,r3⟩:=x7b (sgAt l v).1.Secret (((sgAt l v).1.Id++[46])++encP (cwF c).1) (by omega) (by simp; omega)
 rw [r2]
 simp only [Option.bind_some]
 exact ok_g (by simp; omega) (z1v (by simp; omega))
theorem x4u (s t:Bs) (hs:s.length≤1000000) (ht:t.length≤1000000):Ok (z4l s t) fun r=>r.length≤100:=by
 obtain ⟨r,_,r2,r3⟩:=x7b s t hs ht
 exact ⟨r,r2,r3⟩
theorem x3h {k:Int} {s:z0d} (h:SB k s) (hk:k≤9000) {l:List z0i} (hl:SgB l) {c:z0e} (hc:CSm c) (v:Int):Ok (z5p s l c v) fun r=>r.1.length≤300000∧SB (k+300) r.2:=by
 have J3:∀ (t:Bs) (a:List Int) (b:Int),t.length≤200000→SB (k+130) ⟨a,b⟩→Ok (z2u t a b) fun r=>r.1.length≤300000∧SB (k+300) r.2:=fun t a b ht hs=>by
  unfold z2u z3p
  refine z08 (y4w hs (by omega) _ (by omega)) fun r46 h46=>y4d (fun _ => ?_) (fun _=>z1v ⟨by simp only; omega,h46.mono (by omega)⟩)
  refine z08 (y16 h46 (by omega) _ ⟨by simp,by simp⟩) fun r49 h49 => ?_
  have l49:=y4e h49.1 (by decide)
  refine ok_g (by simp; omega) (ok_g (by simp; omega) (z08 (x4u _ _ (by simp) (by simp; omega)) fun r53 h53=>ok_g (by simp; omega) (z1v ⟨by simp; omega,h49.2.mono (by omega)⟩)))
 have J2:∀ (t:Bs) (a:List Int) (b:Int),t.length≤98000→SB (k+120) ⟨a,b⟩→Ok (z2v t a b) fun r=>r.1.length≤300000∧SB (k+300) r.2:=fun t a b ht hs=>by
  unfold z2v
  refine z08 (y4w hs (by omega) _ (by omega)) fun r38 h38=>y4d (fun _ => ?_) (fun _=>J3 t _ _ (by omega) (h38.mono (by omega)))
  refine z08 (x4g h38 (by omega) t _ (by omega) (by simp)) fun r41 h41=>J3 _ _ _ (by have:=h41.1; simp only [List.length_cons,List.length_nil] at this; omega) (h41.2.mono (by omega))
 have J1:∀ (t:Bs),t.length≤98000→Ok (z2w s t) fun r=>r.1.length≤300000∧SB (k+300) r.2:=fun t ht=>by
  unfold z2w
  refine z08 (y4w h (by omega) _ (by omega)) fun r18 h18=>y4d (fun _ => ?_) (fun _=>J2 t _ _ ht (h18.mono (by omega)))
  refine z08 (y16 h18 (by omega) _ ⟨by simp,by simp⟩) fun r21 h21 => ?_
  have l21:=y4e h21.1 (by decide)
  refine ok_g (by simp; omega) (z08 (x5n h21.2 (by omega)) fun r24 h24 => ?_)
  have hel:=x1p r24.1
  have l24:=h24.1
  rw [y8m _ (by omega)]
  simp only [Option.bind_some]
  refine ok_g (by simp; omega) (ok_g (by simp; omega) (z08 (y16 h24.2 (by omega) _ ⟨by simp,by simp⟩) fun r30 h30 => ?_))
  have l30:=y4e h30.1 (by decide)
  exact z08 (x4u _ _ (by omega) (by simp; omega)) fun r32 h32=>ok_g (by simp; omega) (J2 _ _ _ (by simp; omega) (h30.2.mono (by omega)))
 unfold z5p
 refine z08 (w2h hl hc.cl v) fun r5 i2=>y4d (fun _ => ?_) (fun _=>J1 _ (by omega))
 rw [x2p hc.wb]
 simp only [Option.bind_some]
 have hcl:=hc.len
 have hel:=x1p (txC c)
 rw [y8m _ (by omega)]
 simp only [Option.bind_some]
 exact ok_g (by simp; omega) (ok_g (by simp; omega) (z08 (x4u _ _ (by simp) (by simp; omega)) fun r14 h14=>ok_g (by simp; omega) (J1 _ (by simp; omega))))
end Go.Proofs.YtndabcepiekebaaGreatDoor
namespace Go.Proofs.YtndabcepiekebaaGreatDoor
set_option linter.unusedVariables false
set_option maxRecDepth 20000
section
variable {α:Type}
theorem w3n {l:List α} {k:Nat} (h:0 < k):at? l ((k:Int) - 1)=l[k - 1]?:=by
 unfold at?
 rw [if_pos (by omega)]
 congr 1
 omega
def chR (key:α→Bs) (g:α→Bool→Int):List α→Bs→Int
 | [],_=>0
 | x::l,last=>if g x (leB (key x) last)≠0 then g x (leB (key x) last) else chR key g l (key x)
theorem w3d {key:α→Bs} {g:α→Bool→Int} {body:Nat→α→Bs→Option (Bs ⊕ Int)} {fin:Bs→Option Int} {r:Option Int} (hf:∀ s,fin s=r):∀ (l:List α) (k:Nat) (last:Bs),(∀ j x s,x∈l→body j x s=if g x (leB (key x) s)≠0 then some (.inr (g x (leB (key x) s))) else some (.inl (key x)))→forL body fin k l last=if chR key g l last≠0 then some (chR key g l last) else r
 | [],k,last,h=>by simp [forL,chR,hf]
 | x::l,k,last,h=>by
  have h1:=h k x last (by simp)
  show (body k x last).bind _=_
  rw [h1]
  by_cases hp:g x (leB (key x) last)≠0
  ·simp [chR,hp,after]
  ·simp only [chR,hp,if_false,Option.bind_some,after]
   exact w3d hf l (k+1) (key x) fun j y s hy=>h j y s (List.mem_cons_of_mem _ hy)
def x0i (key:α→Bs) (xs:List α) (k:Nat) (x:α):Bool:=decide (0 < k) && match xs[k - 1]? with | some y=>leB (key x) (key y) | none=>false
theorem w3e {key:α→Bs} {g:α→Bool→Int} (hg:∀ x,leB (key x) []=false∨∀ a b,g x a=g x b) (xs:List α) {body:Nat→α→Unit→Option (Unit ⊕ Int)} {fin:Unit→Option Int} {r:Option Int} (hf:fin ()=r):∀ (l:List α) (k:Nat) (last:Bs),(k=0∧last=[]∨0 < k∧∃ y,xs[k - 1]?=some y∧last=key y)→(∀ j,l[j]?=xs[k+j]?)→(∀ j x,xs[j]?=some x→body j x ()=if g x (x0i key xs j x)≠0 then some (.inr (g x (x0i key xs j x))) else some (.inl ()))→forL body fin k l ()=if chR key g l last≠0 then some (chR key g l last) else r
 | [],k,last,_,_,h=>by simp [forL,chR,hf]
 | x::l,k,last,hk,hl,h=>by
  have hx:xs[k]?=some x:=by have:=hl 0; simpa using this.symm
  have h1:=h k x hx
  have e:g x (x0i key xs k x)=g x (leB (key x) last):=by
   rcases hk with ⟨rfl,rfl⟩ | ⟨h0,y,hy,rfl⟩
   ·have e2:x0i key xs 0 x=false:=by simp [x0i]
    rw [e2]
    rcases hg x with h3 | h3
    ·rw [h3]
    ·exact h3 _ _
   ·have e2:x0i key xs k x=leB (key x) (key y):=by simp [x0i,h0,hy]
    rw [e2]
  rw [e] at h1
  show (body k x ()).bind _=_
  rw [h1]
  by_cases hp:g x (leB (key x) last)≠0
  ·simp [chR,hp,after]
  ·simp only [chR,hp,if_false,Option.bind_some,after]
   refine w3e hg xs hf l (k+1) (key x) (.inr ⟨by omega,x,by simpa using hx,rfl⟩) (fun j => ?_) h
   have:=hl (j+1)
   rw [List.getElem?_cons_succ] at this
   rw [this]; congr 1; omega
end

end Go.Proofs.YtndabcepiekebaaGreatDoor
