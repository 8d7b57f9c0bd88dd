/- Plain: requests of known callers; who a request is from, both sides. -/
import Derived.Test.YtbndlmnjeofkdadGreatDoorTaZu
import Derived.Test.YtbndlmnjeofkdadGreatDoorWoZu
import Derived.Test.YtbndlmnjeofkdadGreatDoorRng
namespace Go.Proofs.YtbndlmnjeofkdadGreatDoor
set_option linter.unusedVariables false
set_option linter.unusedSimpArgs false
set_option linter.unusedSectionVars false
set_option maxRecDepth 20000
section
variable {σ ρ:Type}
theorem rng3 {body:Nat→σ→Option (σ ⊕ ρ)} {fin:σ→Option ρ} {a b c d:σ} (h0:body 0 a=some (.inl b)) (h1:body 1 b=some (.inl c)) (h2:body 2 c=some (.inl d)):rng body fin 3 0 a=fin d:=by
 show (body 0 a).bind _=_
 rw [h0]
 show (body 1 b).bind _=_
 rw [h1]
 show (body 2 c).bind _=_
 rw [h2]; rfl
theorem rng4 {body:Nat→σ→Option (σ ⊕ ρ)} {fin:σ→Option ρ} {a b c d e:σ} (h0:body 0 a=some (.inl b)) (h1:body 1 b=some (.inl c)) (h2:body 2 c=some (.inl d)) (h3:body 3 d=some (.inl e)):rng body fin 4 0 a=fin e:=by
 show (body 0 a).bind _=_
 rw [h0]
 show (body 1 b).bind _=_
 rw [h1]
 show (body 2 c).bind _=_
 rw [h2]
 show (body 3 d).bind _=_
 rw [h3]; rfl
end
def z0n:Nat→Nat→Bs
 | 0,_=>[]
 | n+1,m=>z0n n (m / 2)++[if m % 2=1 then 49 else 48]
theorem t24:∀ a,a < 64→z0n 6 a=z0n 2 (a / 16)++z0n 4 (a % 16):=by decide +kernel
theorem i26:∀ a,a < 4→∀ b,b < 64→z0n 2 a++z0n 6 b=z0n 8 (a * 64+b):=by decide +kernel
abbrev abc:Bs:=[65,66,67,68,69,70,71,72,73,74,75,76,77,78,79,80,81,82,83,84,85,86,87,88,89,90,97,98,99,100,101,102,103,104,105,106,107,108,109,110,111,112,113,114,115,116,117,118,119,120,121,122,48,49,50,51,52,53,54,55,56,57,45,95]
def sgn (v:Nat):UInt8:=abc.getD v 0
theorem w3o (v:Nat) (h:v < 64):at? abc (v:Int)=some (sgn v):=by
 rw [Yz]
 have h1:v < abc.length:=h
 rw [List.getElem?_eq_getElem h1]
 unfold sgn
 rw [List.getD_eq_getElem?_getD,List.getElem?_eq_getElem h1]; rfl
theorem i64w {n:Nat} (h:n≤1000000000000):IntKind.wrap .i64 (n:Int)=(n:Int):=IntWalk.i64_in _ (by omega)
theorem z8j (x k:Nat) (hk:k≤16) (h:x≤1000000):shl_ .i64 (x:Int) (k:Int)=((x * 2 ^ k:Nat):Int):=by
 show IntKind.wrap .i64 ((x:Int) * 2 ^ (min (k:Int).toNat IntKind.i64.bits))=_
 have e1:min (k:Int).toNat IntKind.i64.bits=k:=by
  have:IntKind.i64.bits=64:=rfl
  rw [this]; omega
 rw [e1]
 have e2:((x:Int) * 2 ^ k)=((x * 2 ^ k:Nat):Int):=by push_cast; rfl
 rw [e2]
 refine i64w ?_
 have h1:2 ^ k≤2 ^ 16:=Nat.pow_le_pow_right (by decide) hk
 have h2:=Nat.mul_le_mul h h1
 omega
theorem y7d (x k:Nat) (hk:k≤24):shr_ .i64 (x:Int) (k:Int)=((x / 2 ^ k:Nat):Int):=by
 show (x:Int).fdiv (2 ^ (min (k:Int).toNat IntKind.i64.bits))=_
 have e1:min (k:Int).toNat IntKind.i64.bits=k:=by
  have:IntKind.i64.bits=64:=rfl
  rw [this]; omega
 rw [e1,Int.fdiv_eq_ediv_of_nonneg _ (Int.le_of_lt (Int.pow_pos (by decide)))]
 push_cast; rfl
theorem y77 (a b k:Nat) (hb:b < 2 ^ k) (h:a * 2 ^ k+b≤1000000000000):or_ .i64 ((a * 2 ^ k:Nat):Int) (b:Int)=((a * 2 ^ k+b:Nat):Int):=by
 show IntKind.wrap .i64 (((BitVec.ofInt IntKind.i64.bits ((a * 2 ^ k:Nat):Int) ||| BitVec.ofInt IntKind.i64.bits (b:Int)).toNat:Nat):Int)=_
 have hbits:IntKind.i64.bits=64:=rfl
 rw [hbits,BitVec.ofInt_natCast,BitVec.ofInt_natCast,BitVec.toNat_or,BitVec.toNat_ofNat,BitVec.toNat_ofNat,Nat.mod_eq_of_lt (by omega),Nat.mod_eq_of_lt (by omega),Nat.mul_comm a,← Nat.two_pow_add_eq_or_of_lt hb,Nat.mul_comm]
 exact i64w h
theorem w3s (x:Nat) (h:x≤1000000000000):and_ .i64 (x:Int) 63=((x % 64:Nat):Int):=by
 show IntKind.wrap .i64 (((BitVec.ofInt IntKind.i64.bits (x:Int) &&& BitVec.ofInt IntKind.i64.bits ((63:Nat):Int)).toNat:Nat):Int)=_
 have hbits:IntKind.i64.bits=64:=rfl
 rw [hbits,BitVec.ofInt_natCast,BitVec.ofInt_natCast,BitVec.toNat_and,BitVec.toNat_ofNat,BitVec.toNat_ofNat,Nat.mod_eq_of_lt (by omega),Nat.mod_eq_of_lt (by omega),show 63=2 ^ 6 - 1 from rfl,Nat.and_two_pow_sub_one_eq_mod]
 exact i64w (by omega)
def encP:Bs→Bs
 | []=>[]
 | [a]=>[sgn (a.toNat / 4),sgn (a.toNat % 4 * 16)]
 | [a,b]=>[sgn (a.toNat / 4),sgn (a.toNat % 4 * 16+b.toNat / 16),sgn (b.toNat % 16 * 4)]
 | a::b::c::r=>sgn (a.toNat / 4)::sgn (a.toNat % 4 * 16+b.toNat / 16)::sgn (b.toNat % 16 * 4+c.toNat / 64)::sgn (c.toNat % 64)::encP r
theorem y0i:∀ s,(encP s).length≤2 * s.length
 | []=>by simp [encP]
 | [a]=>by simp [encP]
 | [a,b]=>by simp [encP]
 | a::b::c::r=>by have:=y0i r; simp only [encP,List.length_cons]; omega
theorem z2t (s:Bs) (k x:Nat) (c:UInt8) (hx:x < 65536) (h:s[k]?=some c) (hk:k < 3):uy s k (x:Int)=some (.inl ((x * 256+c.toNat:Nat):Int)):=by
 have h1:=kn h
 have hc:=c.toNat_lt
 unfold uy Qi
 rw [if_pos (by simp; omega),h]
 simp only [Option.bind_some]
 rw [i64w (by omega),show ((8:Int))=((8:Nat):Int) from rfl,z8j x 8 (by omega) (by omega),y77 x c.toNat 8 (by omega) (by omega)]
theorem y4v (s:Bs) (k x:Nat) (hx:x < 65536) (h:s.length≤k):uy s k (x:Int)=some (.inl ((x * 256:Nat):Int)):=by
 unfold uy Qi
 rw [if_neg (by simp; omega),show ((8:Int))=((8:Nat):Int) from rfl,z8j x 8 (by omega) (by omega)]
theorem w13 (x k:Nat) (l:List Int) (hx:x < 16777216) (hk:k≤3) (hl:l.length+1≤1000000000):Qh (x:Int) k l=some (.inl (l++qn [sgn (x / 2 ^ (18 - 6 * k) % 64)])):=by
 unfold Qh
 have e1:wr (18 - wr (6 * (k:Int)))=((18 - 6 * k:Nat):Int):=by
  rw [qw (n:=6 * (k:Int)) (by omega),qw (by omega)]; omega
 have h2:x / 2 ^ (18 - 6 * k)≤x:=Nat.div_le_self _ _
 rw [e1,if_pos (by omega),y7d x _ (by omega),w3s _ (by omega),w3o _ (Nat.mod_lt _ (by decide))]
 simp only [Option.bind_some]
 rw [if_pos hl]
 rfl
def four (x:Nat):Nat→Bs:=fun n=>(List.range n).map fun k=>sgn (x / 2 ^ (18 - 6 * k) % 64)
theorem y4x (s:Bs) (l:List Int) (x n:Nat) (hn:n=min 3 s.length+1) (hx:x < 16777216) (hl:l.length+4≤1000000000) :
  z3r s l (x:Int)=some (.inl (s.drop (min 3 s.length),l++qn (four x n))):=by
 unfold z3r
 have e1:wr (min 3 (s.length:Int)+1)=(n:Int):=by rw [qw (by omega)]; omega
 rw [e1,if_pos (by omega),Int.toNat_natCast]
 have hE:∀ q:List Int,Qj s q=some (.inl (s.drop (min 3 s.length),q)):=by
  intro q
  unfold Qj sub?
  rw [if_pos (by omega)]
  simp only [Option.bind_some]
  congr 3
  rw [List.take_of_length_le (by simp only [List.length_drop]; omega)]
  congr 1; omega
 have key:∀ m k (q:List Int),k+m≤4→q.length+m≤1000000000→rng (fun (k:Nat) (s:(List Int))=>Qh (x:Int) k s) (fun (q:(List Int))=>Qj s q) m k q=some (.inl (s.drop (min 3 s.length),q++qn ((List.range' k m).map fun k=>sgn (x / 2 ^ (18 - 6 * k) % 64)))):=by
  intro m
  induction m with
  | zero=>intro k q _ _; show Qj s q=_; rw [hE]; simp [qn]
  | succ m ih =>
   intro k q hk hq
   show (Qh (x:Int) k q).bind _=_
   rw [w13 x k q hx (by omega) (by omega)]
   simp only [Option.bind_some,after]
   rw [ih (k+1) _ (by omega) (by simp [qn]; omega)]
   simp only [qn,List.range'_succ,List.map_cons,List.append_assoc,List.map_nil,List.cons_append,List.nil_append]
 rw [key n 0 l (by omega) (by omega)]
 unfold four
 rw [List.range_eq_range']
theorem w12 (a b c:UInt8) (r:Bs) (l:List Int) (hl:l.length+4≤1000000000):jh (a::b::c::r) l=some (.inl (r,l++qn [sgn (a.toNat / 4),sgn (a.toNat % 4 * 16+b.toNat / 16),sgn (b.toNat % 16 * 4+c.toNat / 64),sgn (c.toNat % 64)])):=by
 have ha:=a.toNat_lt
 have hb:=b.toNat_lt
 have hc:=c.toNat_lt
 unfold jh
 rw [if_pos (by simp; omega),if_pos (by decide)]
 show rng _ _ 3 0 ((0:Nat):Int)=_
 rw [rng3 (body:=fun (k:Nat) (s:Int)=>uy (a::b::c::r) k s) (z2t _ 0 0 a (by omega) rfl (by omega)) (z2t _ 1 _ b (by omega) rfl (by omega)) (z2t _ 2 _ c (by omega) rfl (by omega))]
 have hm:min 3 (a::b::c::r).length=3:=by simp only [List.length_cons]; omega
 rw [y4x _ l _ 4 (by omega) (by omega) hl,hm]
 have e:four (((0 * 256+a.toNat) * 256+b.toNat) * 256+c.toNat) 4=[sgn (a.toNat / 4),sgn (a.toNat % 4 * 16+b.toNat / 16),sgn (b.toNat % 16 * 4+c.toNat / 64),sgn (c.toNat % 64)]:=by
  show [sgn (_ / 262144 % 64),sgn (_ / 4096 % 64),sgn (_ / 64 % 64),sgn (_ / 1 % 64)]=_
  congr 1
  ·congr 1; omega
  congr 1
  ·congr 1; omega
  congr 1
  ·congr 1; omega
  congr 1
  congr 1; omega
 rw [e]; rfl
theorem w11 (a b:UInt8) (l:List Int) (hl:l.length+4≤1000000000):jh [a,b] l=some (.inl ([],l++qn [sgn (a.toNat / 4),sgn (a.toNat % 4 * 16+b.toNat / 16),sgn (b.toNat % 16 * 4)])):=by
 have ha:=a.toNat_lt
 have hb:=b.toNat_lt
 unfold jh
 rw [if_pos (by simp),if_pos (by decide)]
 show rng _ _ 3 0 ((0:Nat):Int)=_
 rw [rng3 (body:=fun (k:Nat) (s:Int)=>uy [a,b] k s) (z2t _ 0 0 a (by omega) rfl (by omega)) (z2t _ 1 _ b (by omega) rfl (by omega)) (y4v _ 2 _ (by omega) (by simp))]
 rw [y4x _ l _ 3 (by simp) (by omega) hl]
 have e:four (((0 * 256+a.toNat) * 256+b.toNat) * 256) 3=[sgn (a.toNat / 4),sgn (a.toNat % 4 * 16+b.toNat / 16),sgn (b.toNat % 16 * 4)]:=by
  show [sgn (_ / 262144 % 64),sgn (_ / 4096 % 64),sgn (_ / 64 % 64)]=_
  congr 1
  ·congr 1; omega
  congr 1
  ·congr 1; omega
  congr 1
  congr 1; omega
 rw [e,List.drop_eq_nil_of_le (by simp)]
theorem w14 (a:UInt8) (l:List Int) (hl:l.length+4≤1000000000):jh [a] l=some (.inl ([],l++qn [sgn (a.toNat / 4),sgn (a.toNat % 4 * 16)])):=by
 have ha:=a.toNat_lt
 unfold jh
 rw [if_pos (by simp),if_pos (by decide)]
 show rng _ _ 3 0 ((0:Nat):Int)=_
 rw [rng3 (body:=fun (k:Nat) (s:Int)=>uy [a] k s) (z2t _ 0 0 a (by omega) rfl (by omega)) (y4v _ 1 _ (by omega) (by simp)) (y4v _ 2 _ (by omega) (by simp))]
 rw [y4x _ l _ 2 (by simp) (by omega) hl]
 have e:four (((0 * 256+a.toNat) * 256) * 256) 2=[sgn (a.toNat / 4),sgn (a.toNat % 4 * 16)]:=by
  show [sgn (_ / 262144 % 64),sgn (_ / 4096 % 64)]=_
  congr 1
  ·congr 1; omega
  congr 1
  congr 1; omega
 rw [e,List.drop_eq_nil_of_le (by simp)]
theorem y4w (l:List Int):jh [] l=some (.inr (strN l)):=by
 unfold jh z3q
 rw [if_neg (by simp)]; rfl
theorem encI:∀ (s:Bs) (l:List Int),l.length+2 * s.length+4≤1000000000→iter (fun (s:Bs×(List Int))=>jh s.1 s.2) (s,l)=some (strN (l++qn (encP s)))
 | [],l,h=>by rw [Ys (body:=fun (s:Bs×(List Int))=>jh s.1 s.2) (s:=([],_)) (y4w l)]; simp [encP,qn]
 | [a],l,h=>by rw [z2g (body:=fun (s:Bs×(List Int))=>jh s.1 s.2) (s:=([a],l)) (w14 a l (by omega)),Ys (body:=fun (s:Bs×(List Int))=>jh s.1 s.2) (s:=([],_)) (y4w _)]; simp [encP,qn]
 | [a,b],l,h=>by rw [z2g (body:=fun (s:Bs×(List Int))=>jh s.1 s.2) (s:=([a,b],l)) (w11 a b l (by omega)),Ys (body:=fun (s:Bs×(List Int))=>jh s.1 s.2) (s:=([],_)) (y4w _)]; simp [encP,qn]
 | a::b::c::r,l,h=>by
  simp only [List.length_cons] at h
  rw [z2g (body:=fun (s:Bs×(List Int))=>jh s.1 s.2) (s:=(a::b::c::r,l)) (w12 a b c r l (by omega)),encI r _ (by simp [qn]; omega)]
  simp [encP,qn]
theorem x0m (s:Bs) (h:s.length≤100000000):Ze s=some (encP s):=by
 unfold Ze
 rw [encI s [] (by simp only [List.length_nil]; omega),List.nil_append,x4j]
def ix (c:UInt8):Int:=Lib.indexByte abc c
def iv (c:UInt8):Nat:=(ix c).toNat
theorem w0z (c:UInt8):ix c < 0∨(ix c=(iv c:Int)∧iv c < 64):=by
 have:=ug (fun c=>decide (ix c < 0∨(ix c=(iv c:Int)∧iv c < 64))) (by decide +kernel) c
 exact of_decide_eq_true this
def gdB (c:UInt8):Bool:=decide (0≤ix c)
theorem gd_t {c:UInt8} (h:gdB c=true):ix c=(iv c:Int)∧iv c < 64:=by
 unfold gdB at h
 have h:=of_decide_eq_true h
 rcases w0z c with h1 | h1
 ·omega
 ·exact h1
theorem gd_f {c:UInt8} (h:gdB c=false):ix c < 0:=by
 unfold gdB at h
 have h:=of_decide_eq_false h
 omega
theorem y9o (c:UInt8):Yk abc (c.toNat:Int)=some (ix c):=by
 unfold Yk ix
 simp
def decP:List Nat→List Nat
 | []=>[]
 | [a]=>[]
 | [a,b]=>[a * 4+b / 16]
 | [a,b,c]=>[a * 4+b / 16,b % 16 * 16+c / 4]
 | a::b::c::d::r=>(a * 4+b / 16)::(b % 16 * 16+c / 4)::(c % 4 * 64+d)::decP r
theorem y40:∀ s,(decP s).length≤s.length
 | []=>by simp [decP]
 | [a]=>by simp [decP]
 | [a,b]=>by simp [decP]
 | [a,b,c]=>by simp [decP]
 | a::b::c::d::r=>by have:=y40 r; simp only [decP,List.length_cons]; omega
def nI (l:List Nat):List Int:=l.map fun n:Nat=>(n:Int)
theorem jd (s:Bs) (k x:Nat) (c:UInt8) (hx:x < 262144) (h:s[k]?=some c) (hk:k < 4) (hg:gdB c=true):jz s k (x:Int)=some (.inl ((x * 64+iv c:Nat):Int)):=by
 have h1:=kn h
 obtain ⟨h2,h3⟩:=gd_t hg
 unfold jz Ya
 rw [if_pos (by simp; omega),h]
 simp only [Option.bind_some]
 rw [y9o]
 simp only [Option.bind_some]
 rw [if_neg (by simp; omega),h2,show ((6:Int))=((6:Nat):Int) from rfl,z8j x 6 (by omega) (by omega),y77 x (iv c) 6 (by omega) (by omega)]
theorem xl (s:Bs) (k:Nat) (x:Int) (c:UInt8) (h:s[k]?=some c) (hk:k < 4) (hg:gdB c=false):jz s k x=some (.inr (.inr ([],9))):=by
 have h1:=kn h
 have h2:=gd_f hg
 unfold jz Ya
 rw [if_pos (by simp; omega),h]
 simp only [Option.bind_some]
 rw [y9o]
 simp only [Option.bind_some]
 rw [if_pos (by simp; omega)]
theorem z2w (s:Bs) (k x:Nat) (hx:x < 262144) (h:s.length≤k):jz s k (x:Int)=some (.inl ((x * 64:Nat):Int)):=by
 unfold jz Ya
 rw [if_neg (by simp; omega),show ((6:Int))=((6:Nat):Int) from rfl,z8j x 6 (by omega) (by omega)]
theorem w2g (x k:Nat) (l:List Int) (hx:x < 16777216) (hk:k≤2) (hl:l.length+1≤1000000000):Ql (x:Int) k l=some (.inl (l++nI [x / 2 ^ (16 - 8 * k) % 256])):=by
 unfold Ql
 have e1:wr (16 - wr (8 * (k:Int)))=((16 - 8 * k:Nat):Int):=by
  rw [qw (n:=8 * (k:Int)) (by omega),qw (by omega)]; omega
 rw [e1,if_pos (by omega),if_pos hl,y7d x _ (by omega)]
 have e2:IntKind.wrap .u8 ((x / 2 ^ (16 - 8 * k):Nat):Int)=((x / 2 ^ (16 - 8 * k) % 256:Nat):Int):=by
  unfold IntKind.wrap
  simp [IntKind.bits,IntKind.signed]
 rw [e2]; rfl
def z3u (x:Nat):Nat→List Nat:=fun n=>(List.range n).map fun k=>x / 2 ^ (16 - 8 * k) % 256
theorem y0l (s:Bs) (l:List Int) (x n:Nat) (hn:n+1=min 4 s.length) (hx:x < 16777216) (hl:l.length+4≤1000000000) :
  z3s s l (x:Int)=some (.inl (s.drop (min 4 s.length),l++nI (z3u x n))):=by
 unfold z3s
 have e1:wr (min 4 (s.length:Int) - 1)=(n:Int):=by rw [qw (by omega)]; omega
 rw [e1,if_pos (by omega),Int.toNat_natCast]
 have hE:∀ q:List Int,Qn s q=some (.inl (s.drop (min 4 s.length),q)):=by
  intro q
  unfold Qn sub?
  rw [if_pos (by omega)]
  simp only [Option.bind_some]
  congr 3
  rw [List.take_of_length_le (by simp only [List.length_drop]; omega)]
  congr 1; omega
 have key:∀ m k (q:List Int),k+m≤3→q.length+m≤1000000000→rng (fun (k:Nat) (s:(List Int))=>Ql (x:Int) k s) (fun (q:(List Int))=>Qn s q) m k q=some (.inl (s.drop (min 4 s.length),q++nI ((List.range' k m).map fun k=>x / 2 ^ (16 - 8 * k) % 256))):=by
  intro m
  induction m with
  | zero=>intro k q _ _; show Qn s q=_; rw [hE]; simp [nI]
  | succ m ih =>
   intro k q hk hq
   show (Ql (x:Int) k q).bind _=_
   rw [w2g x k q hx (by omega) (by omega)]
   simp only [Option.bind_some,after]
   rw [ih (k+1) _ (by omega) (by simp [nI]; omega)]
   simp only [nI,List.range'_succ,List.map_cons,List.append_assoc,List.map_nil,List.cons_append,List.nil_append]
 rw [key n 0 l (by omega) (by omega)]
 unfold z3u
 rw [List.range_eq_range']
theorem xd {σ ρ:Type} {body:Nat→σ→Option (σ ⊕ ρ)} {fin:σ→Option ρ} {a:σ} {r:ρ} (h:body 0 a=some (.inr r)∨∃ b,body 0 a=some (.inl b)∧(body 1 b=some (.inr r)∨∃ c,body 1 b=some (.inl c)∧(body 2 c=some (.inr r)∨∃ d,body 2 c=some (.inl d)∧body 3 d=some (.inr r)))):rng body fin 4 0 a=some r:=by
 show (body 0 a).bind _=_
 rcases h with h | ⟨b,h0,h⟩
 ·rw [h]; rfl
 rw [h0]
 show (body 1 b).bind _=_
 rcases h with h | ⟨c,h1,h⟩
 ·rw [h]; rfl
 rw [h1]
 show (body 2 c).bind _=_
 rcases h with h | ⟨d,h2,h⟩
 ·rw [h]; rfl
 rw [h2]
 show (body 3 d).bind _=_
 rw [h]; rfl
theorem w2c (s0 s:Bs) (l:List Int) (hs:s≠[]) (hl:l.length+4≤1000000000) :
  uz s0 s l=if (s.take 4).all gdB then some (.inl (s.drop 4,l++nI (decP ((s.take 4).map iv)))) else some (.inr ([],9)):=by
 unfold uz
 have hp:0 < s.length:=by cases s with | nil=>exact absurd rfl hs | cons _ _=>simp
 rw [if_pos (by simp; omega),if_pos (by decide)]
 show rng (fun (k:Nat) (q:Int)=>jz s k q) _ 4 0 ((0:Nat):Int)=_
 have drop4:s.drop (min 4 s.length)=s.drop 4:=by
  by_cases h6:s.length≤4
  ·rw [List.drop_eq_nil_of_le h6,List.drop_eq_nil_of_le (by omega)]
  ·rw [show min 4 s.length=4 by omega]
 match s,hs with
 | [a],_ =>
  cases ga:gdB a
  ·rw [if_neg (by simp [ga])]
   exact xd (.inl (xl _ 0 _ a rfl (by omega) ga))
  ·obtain ⟨_,ha⟩:=gd_t ga
   rw [if_pos (by simp [ga]),rng4 (body:=fun (k:Nat) (q:Int)=>jz [a] k q) (jd _ 0 0 a (by omega) rfl (by omega) ga) (z2w _ 1 _ (by omega) (by simp)) (z2w _ 2 _ (by omega) (by simp)) (z2w _ 3 _ (by omega) (by simp))]
   rw [y0l _ l _ 0 (by simp) (by omega) hl,drop4]; rfl
 | [a,b],_ =>
  cases ga:gdB a
  ·rw [if_neg (by simp [ga])]
   exact xd (.inl (xl _ 0 _ a rfl (by omega) ga))
  cases gb:gdB b
  ·rw [if_neg (by simp [gb])]
   exact xd (.inr ⟨_,jd _ 0 0 a (by omega) rfl (by omega) ga,.inl (xl _ 1 _ b rfl (by omega) gb)⟩)
  ·obtain ⟨_,ha⟩:=gd_t ga
   obtain ⟨_,hb⟩:=gd_t gb
   rw [if_pos (by simp [ga,gb]),rng4 (body:=fun (k:Nat) (q:Int)=>jz [a,b] k q) (jd _ 0 0 a (by omega) rfl (by omega) ga) (jd _ 1 _ b (by omega) rfl (by omega) gb) (z2w _ 2 _ (by omega) (by simp)) (z2w _ 3 _ (by omega) (by simp))]
   rw [y0l _ l _ 1 (by simp) (by omega) hl,drop4]
   have e:z3u ((((0 * 64+iv a) * 64+iv b) * 64) * 64) 1=[iv a * 4+iv b / 16]:=by
    show [_ / 65536 % 256]=_
    congr 1; omega
   rw [e]; rfl
 | [a,b,c],_ =>
  cases ga:gdB a
  ·rw [if_neg (by simp [ga])]
   exact xd (.inl (xl _ 0 _ a rfl (by omega) ga))
  cases gb:gdB b
  ·rw [if_neg (by simp [gb])]
   exact xd (.inr ⟨_,jd _ 0 0 a (by omega) rfl (by omega) ga,.inl (xl _ 1 _ b rfl (by omega) gb)⟩)
  obtain ⟨_,ha⟩:=gd_t ga
  obtain ⟨_,hb⟩:=gd_t gb
  cases gc:gdB c
  ·rw [if_neg (by simp [gc])]
   exact xd (.inr ⟨_,jd _ 0 0 a (by omega) rfl (by omega) ga,.inr ⟨_,jd _ 1 _ b (by omega) rfl (by omega) gb,.inl (xl _ 2 _ c rfl (by omega) gc)⟩⟩)
  ·obtain ⟨_,hc⟩:=gd_t gc
   rw [if_pos (by simp [ga,gb,gc]),rng4 (body:=fun (k:Nat) (q:Int)=>jz [a,b,c] k q) (jd _ 0 0 a (by omega) rfl (by omega) ga) (jd _ 1 _ b (by omega) rfl (by omega) gb) (jd _ 2 _ c (by omega) rfl (by omega) gc) (z2w _ 3 _ (by omega) (by simp))]
   rw [y0l _ l _ 2 (by simp) (by omega) hl,drop4]
   have e:z3u ((((0 * 64+iv a) * 64+iv b) * 64+iv c) * 64) 2=[iv a * 4+iv b / 16,iv b % 16 * 16+iv c / 4]:=by
    show [_ / 65536 % 256,_ / 256 % 256]=_
    congr 1
    ·omega
    congr 1; omega
   rw [e]; rfl
 | a::b::c::d::r,_ =>
  cases ga:gdB a
  ·rw [if_neg (by simp [ga])]
   exact xd (.inl (xl _ 0 _ a rfl (by omega) ga))
  cases gb:gdB b
  ·rw [if_neg (by simp [gb])]
   exact xd (.inr ⟨_,jd _ 0 0 a (by omega) rfl (by omega) ga,.inl (xl _ 1 _ b rfl (by omega) gb)⟩)
  obtain ⟨_,ha⟩:=gd_t ga
  obtain ⟨_,hb⟩:=gd_t gb
  cases gc:gdB c
  ·rw [if_neg (by simp [gc])]
   exact xd (.inr ⟨_,jd _ 0 0 a (by omega) rfl (by omega) ga,.inr ⟨_,jd _ 1 _ b (by omega) rfl (by omega) gb,.inl (xl _ 2 _ c rfl (by omega) gc)⟩⟩)
  obtain ⟨_,hc⟩:=gd_t gc
  cases gd:gdB d
  ·rw [if_neg (by simp [gd])]
   exact xd (.inr ⟨_,jd _ 0 0 a (by omega) rfl (by omega) ga,.inr ⟨_,jd _ 1 _ b (by omega) rfl (by omega) gb,.inr ⟨_,jd _ 2 _ c (by omega) rfl (by omega) gc,xl _ 3 _ d rfl (by omega) gd⟩⟩⟩)
  ·obtain ⟨_,hd⟩:=gd_t gd
   rw [if_pos (by simp [ga,gb,gc,gd]),rng4 (body:=fun (k:Nat) (q:Int)=>jz (a::b::c::d::r) k q) (jd _ 0 0 a (by omega) rfl (by omega) ga) (jd _ 1 _ b (by omega) rfl (by omega) gb) (jd _ 2 _ c (by omega) rfl (by omega) gc) (jd _ 3 _ d (by omega) rfl (by omega) gd)]
   rw [y0l _ l _ 3 (by simp) (by omega) hl,drop4]
   have e:z3u ((((0 * 64+iv a) * 64+iv b) * 64+iv c) * 64+iv d) 3=[iv a * 4+iv b / 16,iv b % 16 * 16+iv c / 4,iv c % 4 * 64+iv d]:=by
    show [_ / 65536 % 256,_ / 256 % 256,_ / 1 % 256]=_
    congr 1
    ·omega
    congr 1
    ·omega
    congr 1; omega
   rw [e]; rfl
theorem w2h (s:List Nat):decP s=decP (s.take 4)++decP (s.drop 4):=by
 match s with
 | []=>rfl
 | [a]=>rfl
 | [a,b]=>rfl
 | [a,b,c]=>rfl
 | a::b::c::d::r=>rfl
theorem decI (s0:Bs):∀ (n:Nat) (s:Bs) (l:List Int),s.length≤n→l.length+s.length+4≤1000000000→iter (fun (s:Bs×(List Int))=>uz s0 s.1 s.2) (s,l)=if s.all gdB then Qm s0 (l++nI (decP (s.map iv))) else some ([],9):=by
 intro n
 induction n with
 | zero =>
  intro s l h _
  obtain rfl:s=[]:=List.length_eq_zero_iff.1 (by omega)
  rw [z94]
  show (uz s0 [] l).bind _=_
  unfold uz
  rw [if_neg (by simp)]
  simp only [List.all_nil,if_true,List.map_nil,decP,nI,List.append_nil]
  cases Qm s0 l <;> rfl
 | succ n ih =>
  intro s l h hb
  by_cases hs:s=[]
  ·exact ih s l (by rw [hs]; simp) hb
  have hr:=w2c s0 s l hs (by omega)
  have hal:s.all gdB=((s.take 4).all gdB && (s.drop 4).all gdB):=by rw [← List.all_append,List.take_append_drop]
  cases hq:(s.take 4).all gdB
  ·rw [hq,if_neg (by simp)] at hr
   rw [Ys (body:=fun (s:Bs×(List Int))=>uz s0 s.1 s.2) (s:=(s,l)) hr,hal,hq]
   simp
  ·rw [hq,if_pos rfl] at hr
   have hp:0 < s.length:=by cases s with | nil=>exact absurd rfl hs | cons _ _=>simp
   have hd:=y40 ((s.take 4).map iv)
   simp only [List.length_map,List.length_take] at hd
   rw [z2g (body:=fun (s:Bs×(List Int))=>uz s0 s.1 s.2) (s:=(s,l)) hr,ih (s.drop 4) _ (by simp; omega) (by simp only [nI,List.length_append,List.length_map,List.length_drop]; omega),hal,hq,w2h (s.map iv)]
   simp only [Bool.true_and,nI,List.map_append,List.append_assoc,List.map_take,List.map_drop]
theorem x4l (l:List Int):(strN l).length=l.length:=by simp [strN]
def decF (s:Bs):Bs×Int:=if s.all gdB then (if encP (strN (nI (decP (s.map iv))))≠s then ([],9) else (strN (nI (decP (s.map iv))),0)) else ([],9)
theorem w2b (s:Bs) (h:s.length≤100000000):z5a s=some (decF s):=by
 unfold z5a
 rw [decI s s.length s [] (Nat.le_refl _) (by simp only [List.length_nil]; omega),List.nil_append]
 unfold decF
 cases hq:s.all gdB
 ·simp
 ·simp only [if_true]
  unfold Qm
  have hd:=y40 (s.map iv)
  rw [x0m _ (by rw [x4l]; simp [nI]; simp at hd; omega)]
  simp only [Option.bind_some]
  by_cases h1:encP (strN (nI (decP (s.map iv))))=s <;> simp [h1]
def hst (h:Int) (c:UInt8):Int:=IntKind.wrap .u64 ((xor_ .u64 h (IntKind.wrap .u64 (c.toNat:Int))) * 1099511628211)
theorem z7c (n:Int):0≤IntKind.wrap .u64 n∧IntKind.wrap .u64 n≤18446744073709551615:=by
 unfold IntKind.wrap
 simp [IntKind.bits,IntKind.signed]
 omega
theorem w1a (l:Bs):∀ h:Int,(0≤h∧h≤18446744073709551615)→0≤l.foldl hst h∧l.foldl hst h≤18446744073709551615:=by
 induction l with
 | nil=>intro h hh; exact hh
 | cons c l ih=>intro h _; exact ih _ (z7c _)
theorem y4u {ρ:Type} {body:Nat→UInt8→Int→Option (Int ⊕ ρ)} {fin:Int→Option ρ} (hb:∀ k c h,body k c h=some (.inl (hst h c))):∀ (l:Bs) (k:Nat) (h:Int),forL body fin k l h=fin (l.foldl hst h)
 | [],k,h=>rfl
 | c::l,k,h=>by
  show (body k c h).bind _=_
  rw [hb]
  exact y4u hb l (k+1) _
theorem x4c (k:Nat) (x:Bs) (h:Int) (hx:x.length≤1000000000):Qe k x h=some (.inl (x.foldl hst h)):=by
 unfold Qe
 rw [if_pos hx,y4u (body:=fun (k:Nat) (x:UInt8) (s:Int)=>z7s k x s) (fun _ _ _=>rfl)]
 rfl
theorem y6t:∀ (ls:List Bs) (k:Nat) (h:Int),(∀ x,x∈ls→x.length≤1000000000)→forL (fun (k:Nat) (x:Bs) (s:Int)=>Qe k x s) (fun (s:Int)=>Zy s) k ls h=Zy (ls.foldl (fun h x=>x.foldl hst h) h)
 | [],k,h,_=>rfl
 | x::ls,k,h,hx=>by
  show (Qe k x h).bind _=_
  rw [x4c k x h (hx x (by simp))]
  exact y6t ls (k+1) _ fun y hy=>hx y (by simp [hy])
def mixH (h:Int):Int:=IntKind.wrap .u64 ((xor_ .u64 h (shr_ .u64 h 29)) * 13787848793156543929)
theorem w1c (h:Int) (hh:0≤h∧h≤18446744073709551615):Ok (z16 h) fun r=>r.length≤100:=by
 unfold z16
 have hf:Ok (Yl h 16) fun r=>r.length≤16:=by
  unfold Yl z5u z5t z2k z5s
  rw [if_neg (by decide),if_neg (by decide),if_neg (by decide)]
  have hp:decide (and_ .i64 16 (wr (16 - 1))=0)=true:=by decide +kernel
  have htz:z2d (IntKind.wrap .u64 16)=some 4:=by decide +kernel
  simp only [hp,Option.bind_some,if_true,htz]
  refine wa (Q:=fun r=>r.length≤16) (wa (Q:=fun r=>r.2.length≤16) ?_ fun r hr=>wv hr) fun r hr=>wv hr
  have h16p:h.toNat < 16 ^ (16 - 0):=by
   have:(16:Nat) ^ (16 - 0)=18446744073709551616:=by decide
   rw [this]; omega
  refine y2t (fun s:Int×Int×List Int=>∃ v j:Nat,s.1=(v:Int)∧s.2.1=((65 - j:Nat):Int)∧j≤15∧s.2.2.length=65∧v < 16 ^ (16 - j)) (fun s=>s.1.toNat) ?_ _ ⟨h.toNat,0,by simp; omega,rfl,by omega,by simp,h16p⟩
  rintro ⟨v,i,l⟩ ⟨v,j,rfl,rfl,hj,hl,hv⟩
  simp only at hl ⊢
  have e16:IntKind.wrap .u64 16=16:=by decide
  have e15:IntKind.wrap .u64 (16 - 1)=15:=by decide
  have hdig:∀ u:Nat,u < 16→Ok (at? ([48,49,50,51,52,53,54,55,56,57,97,98,99,100,101,102,103,104,105,106,107,108,109,110,111,112,113,114,115,116,117,118,119,120,121,122]:Bs) (u:Int)) fun _=>True:=by
   intro u hu
   rw [Yz,List.getElem?_eq_getElem (by simp; omega)]
   exact ⟨_,rfl,trivial⟩
  have ew:wr (((65 - j:Nat):Int) - 1)=((64 - j:Nat):Int):=by rw [qw (by omega)]; omega
  unfold z6h
  rw [e16,e15,ew]
  by_cases h16:16≤v
  ·rw [if_pos (by simp; omega)]
   have hj2:j≤14:=by
    rcases Nat.lt_or_ge 14 j with hq | hq
    ·have:j=15:=by omega
     subst this
     simp at hv; omega
    ·exact hq
   have e1:and_ .u64 (v:Int) 15=((v % 16:Nat):Int):=by
    show IntKind.wrap .u64 (((BitVec.ofInt IntKind.u64.bits (v:Int) &&& BitVec.ofInt IntKind.u64.bits ((15:Nat):Int)).toNat:Nat):Int)=_
    have hbits:IntKind.u64.bits=64:=rfl
    have hv2:v < 2 ^ 64:=Nat.lt_of_lt_of_le hv (Nat.le_trans (Nat.pow_le_pow_right (by decide) (show 16 - j≤16 by omega)) (by decide))
    rw [hbits,BitVec.ofInt_natCast,BitVec.ofInt_natCast,BitVec.toNat_and,BitVec.toNat_ofNat,BitVec.toNat_ofNat,Nat.mod_eq_of_lt hv2,Nat.mod_eq_of_lt (by omega),show 15=2 ^ 4 - 1 from rfl,Nat.and_two_pow_sub_one_eq_mod]
    exact y5s (by omega)
   have e4:IntKind.wrap .u64 4=4:=by decide
   have e2:shr_ .u64 (v:Int) 4=((v / 16:Nat):Int):=by
    show (v:Int).fdiv (2 ^ (min (4:Int).toNat IntKind.u64.bits))=_
    have:min (4:Int).toNat IntKind.u64.bits=4:=by decide
    rw [this,Int.fdiv_eq_ediv_of_nonneg _ (by decide)]
    rfl
   rw [e1]
   refine wa (hdig (v % 16) (Nat.mod_lt _ (by decide))) fun x _=>ok_g (by omega) (ok_g (by omega) ?_)
   rw [e4,e2]
   refine ok_g (by omega) (wv ⟨⟨v / 16,j+1,rfl,?_,by omega,by simp [hl],?_⟩,?_⟩)
   ·have:64 - j=65 - (j+1):=by omega
    rw [this]
   ·obtain ⟨m,hm⟩:∃ m,16 - j=m+1:=⟨15 - j,by omega⟩
    rw [hm,Nat.pow_succ] at hv
    rw [show 16 - (j+1)=m by omega]
    omega
   ·simp only [Int.toNat_natCast]; omega
  ·rw [if_neg (by simp; omega)]
   have hJ:Ok (Yu false false (v:Int) ((65 - j:Nat):Int) l) fun r=>r.2.length≤16:=by
    unfold Yu z0e z0d
    rw [ew]
    refine wa (hdig v (by omega)) fun x _=>ok_g (by omega) (ok_g (by omega) ?_)
    rw [if_neg (by decide),if_neg (by decide)]
    refine ok_g (by simp [hl]) (ok_g (by omega) (wv ?_))
    simp only [strN,List.length_map,List.length_drop,List.length_set,hl,Int.toNat_natCast]
    omega
   obtain ⟨r,h1,h2⟩:=hJ
   rw [h1]
   exact ⟨_,rfl,h2⟩
 refine wa hf fun r hr => ?_
 have hw:wr (16 - (r.length:Int))=16 - (r.length:Int):=qw (by omega)
 rw [hw]
 have hr2:Ok (Zh [48] (16 - (r.length:Int))) fun q=>q.length≤16:=by
  unfold Zh
  refine ok_g ⟨by omega,by omega,by simp⟩ (wv ?_)
  rw [Lib.repeatL_length]
  simp only [List.length_cons,List.length_nil]
  omega
 exact wa hr2 fun q hq=>ok_g (by omega) (wv (by simp only [List.length_append]; omega))
theorem x4e (h:Int) (hh:0≤h∧h≤18446744073709551615):Ok (Zy h) fun r=>z0k (mixH (mixH (mixH h)))=some r∧r.length≤100:=by
 unfold Zy
 rw [if_pos (by decide),rng3 (body:=fun (k:Nat) (s:Int)=>z7t k s) (b:=mixH h) (c:=mixH (mixH h)) (d:=mixH (mixH (mixH h))) rfl rfl rfl]
 obtain ⟨r,h1,hlen⟩:=w1c (mixH (mixH (mixH h))) (z7c _)
 have e:z7u (mixH (mixH (mixH h)))=z16 (mixH (mixH (mixH h))):=rfl
 rw [e,h1]
 unfold z0k
 rw [h1]
 exact ⟨r,rfl,rfl,hlen⟩
theorem w0y (a b:Bs):Lib.join [a,b,a] [0]=a++([0]++(b++([0]++a))):=by
 simp [Lib.join]
theorem x4b (s t:Bs) (hs:s.length≤1000000) (ht:t.length≤1000000):Ok (kz s t) fun r=>z9m s t=some r∧r.length≤100:=by
 obtain ⟨H,hH⟩:∃ H,(s++([0]++(t++([0]++s)))).foldl hst 14695981039346656037=H:=⟨_,rfl⟩
 have hr:0≤H∧H≤18446744073709551615:=by rw [← hH]; exact w1a _ _ (by decide)
 have e1:kz s t=Zy H:=by
  unfold kz
  rw [if_pos (by simp)]
  rw [y6t _ _ _ (by intro x hx; simp at hx; rcases hx with h1 | h1 | h1 | h1 | h1 <;> rw [h1] <;> first | omega | simp)]
  rw [← hH]
  simp only [List.foldl_append,List.foldl_cons,List.foldl_nil]
 have e2:z9m s t=z0k (mixH (mixH (mixH H))):=by
  unfold z9m y8m ua
  rw [w0y]
  have hlen:(s++([0]++(t++([0]++s)))).length≤1000000000:=by simp; omega
  rw [if_pos ⟨by simp,hlen⟩]
  simp only [Option.bind_some]
  rw [if_pos hlen,y4u (body:=fun (k:Nat) (x:UInt8) (s:Int)=>y96 k x s) (fun _ _ _=>rfl),hH]
  unfold y97
  simp only [Option.bind_some]
  rw [if_pos (by decide),rng3 (body:=fun (k:Nat) (s:Int)=>z99 k s) (b:=mixH H) (c:=mixH (mixH H)) (d:=mixH (mixH (mixH H))) rfl rfl rfl]
 rw [e1,e2]
 exact x4e H hr
theorem CSm.cl {c:zm} (h:CSm c):ClB c:=
 ⟨by have:=h.id; omega,by have:=h.subject; omega,by have:=h.issuer; omega,by have:=h.parent; omega,⟨by have:=h.aud.1; omega,fun x hx=>by have:=h.aud.2 x hx; omega⟩,⟨by have:=h.sc.1; omega,fun x hx=>by have:=h.sc.2 x hx; omega⟩⟩
theorem y8b (v:Int):z1p v=some (if momP v=true then 0 else 1):=by
 unfold z1p
 rw [y9r]
 simp only [Option.bind_some]
 cases momP v <;> rfl
section
variable {α:Type}
theorem w3m {l:List α} {k:Nat} (h:0 < k):at? l ((k:Int) - 1)=l[k - 1]?:=by
 unfold at?
 rw [if_pos (by omega)]
 congr 1
 omega
def chR (key:α→Bs) (g:α→Bool→Int):List α→Bs→Int
 | [],_=>0
 | x::l,last=>if g x (leB (key x) last)≠0 then g x (leB (key x) last) else chR key g l (key x)
theorem x0x {key:α→Bs} {g:α→Bool→Int} {body:Nat→α→Bs→Option (Bs ⊕ Int)} {fin:Bs→Option Int} {r:Option Int} (hf:∀ s,fin s=r):∀ (l:List α) (k:Nat) (last:Bs),(∀ j x s,x∈l→body j x s=if g x (leB (key x) s)≠0 then some (.inr (g x (leB (key x) s))) else some (.inl (key x)))→forL body fin k l last=if chR key g l last≠0 then some (chR key g l last) else r
 | [],k,last,h=>by simp [forL,chR,hf]
 | x::l,k,last,h=>by
  have h1:=h k x last (by simp)
  show (body k x last).bind _=_
  rw [h1]
  by_cases hp:g x (leB (key x) last)≠0
  ·simp [chR,hp,after]
  ·simp only [chR,hp,if_false,Option.bind_some,after]
   exact x0x hf l (k+1) (key x) fun j y s hy=>h j y s (List.mem_cons_of_mem _ hy)
def ko (key:α→Bs) (xs:List α) (k:Nat) (x:α):Bool:=decide (0 < k) && match xs[k - 1]? with | some y=>leB (key x) (key y) | none=>false
theorem x0y {key:α→Bs} {g:α→Bool→Int} (hg:∀ x,leB (key x) []=false∨∀ a b,g x a=g x b) (xs:List α) {body:Nat→α→Unit→Option (Unit ⊕ Int)} {fin:Unit→Option Int} {r:Option Int} (hf:fin ()=r):∀ (l:List α) (k:Nat) (last:Bs),(k=0∧last=[]∨0 < k∧∃ y,xs[k - 1]?=some y∧last=key y)→(∀ j,l[j]?=xs[k+j]?)→(∀ j x,xs[j]?=some x→body j x ()=if g x (ko key xs j x)≠0 then some (.inr (g x (ko key xs j x))) else some (.inl ()))→forL body fin k l ()=if chR key g l last≠0 then some (chR key g l last) else r
 | [],k,last,_,_,h=>by simp [forL,chR,hf]
 | x::l,k,last,hk,hl,h=>by
  have hx:xs[k]?=some x:=by have:=hl 0; simpa using this.symm
  have h1:=h k x hx
  have e:g x (ko key xs k x)=g x (leB (key x) last):=by
   rcases hk with ⟨rfl,rfl⟩ | ⟨h0,y,hy,rfl⟩
   ·have e2:ko key xs 0 x=false:=by simp [ko]
    rw [e2]
    rcases hg x with h3 | h3
    ·rw [h3]
    ·exact h3 _ _
   ·have e2:ko key xs k x=leB (key x) (key y):=by simp [ko,h0,hy]
    rw [e2]
  rw [e] at h1
  show (body k x ()).bind _=_
  rw [h1]
  by_cases hp:g x (leB (key x) last)≠0
  ·simp [chR,hp,after]
  ·simp only [chR,hp,if_false,Option.bind_some,after]
   refine x0y hg xs hf l (k+1) (key x) (.inr ⟨by omega,x,by simpa using hx,rfl⟩) (fun j => ?_) h
   have:=hl (j+1)
   rw [List.getElem?_cons_succ] at this
   rw [this]; congr 1; omega
end

abbrev xdL:Bs:=[48,49,50,51,52,53,54,55,56,57,97,98,99,100,101,102]
def isX (c:UInt8):Bool:=xdL.contains c
structure RvB (l:List qs):Prop where
 len:l.length≤1000
 id:∀ x,x∈l→x.Id.length≤1000
def gRv (x:qs) (late:Bool):Int:=if (!keyP x.Id)=true then 5 else if late=true then 7 else if (outP x.At 0 x.Until || decide (345686400000 < x.Until))=true then 1 else 0
def rvF (l:List qs):Int:=if 1000 < l.length then 2 else chR (fun x:qs=>x.Id) gRv l []
theorem w1j (x:qs):leB x.Id []=false∨∀ a b,gRv x a=gRv x b:=by
 cases h:keyP x.Id
 ·right; intro a b; simp [gRv,h]
 ·left; exact x7z h
theorem w35 (l:List qs) (hl:RvB l):y8o l=some (rvF l):=by
 have hn:=hl.len
 unfold y8o rvF
 by_cases h1:1000 < l.length
 ·omega
 ·rw [if_neg (by simp; omega),if_neg h1,if_pos (by omega)]
  have h:=x0x (key:=fun x:qs=>x.Id) (g:=gRv) (body:=fun k x s=>y4p k x s) (fin:=fun s=>y99 s) (r:=some 0) (fun _=>rfl) l 0 [] fun j x s hx=>by
   unfold y4p gRv
   rw [x79 x.Id (by have:=hl.id x hx; omega),y9v]
   simp only [Option.bind_some,Bool.not_not]
   show (if (!keyP x.Id)=true then _ else if leB x.Id s=true then _ else _)=_
   cases keyP x.Id
   ·rfl
   ·cases leB x.Id s
    ·cases (outP x.At 0 x.Until || decide (345686400000 < x.Until)) <;> rfl
    ·rfl
  rw [h]
  by_cases h2:chR (fun x:qs=>x.Id) gRv l []=0
  ·rw [if_neg (not_not_intro h2),h2]
  ·rw [if_pos h2]
theorem w2z (l:List qs) (hl:RvB l):z5c l=some (rvF l):=by
 have hn:=hl.len
 unfold z5c rvF
 by_cases h1:1000 < l.length
 ·omega
 ·rw [if_neg (by simp; omega),if_neg h1,if_pos (by omega)]
  have h:=x0y (key:=fun x:qs=>x.Id) (g:=gRv) w1j l (body:=fun k x (s:Unit)=>z3t l k x) (fin:=fun (s:Unit)=>z74) (r:=some 0) rfl l 0 [] (.inl ⟨rfl,rfl⟩) (fun j=>by rw [Nat.zero_add]) fun j x hx=>by
   have hk:=kn hx
   have hJ:∀ b,z03 x b=if b=true then some (.inr 7) else if (outP x.At 0 x.Until || decide (345686400000 < x.Until))=true then some (.inr 1) else some (.inl ()):=fun b=>rfl
   unfold z3t gRv
   rw [kk x.Id (by have:=hl.id x (List.mem_of_getElem? hx); omega)]
   simp only [Option.bind_some,hJ]
   have hlate:ko (fun x:qs=>x.Id) l j x=ko (fun x:qs=>x.Id) l j x:=rfl
   cases keyP x.Id
   ·rfl
   ·simp only [Bool.not_true,Bool.false_eq_true,if_false]
    by_cases h0:0 < j
    ·obtain ⟨y,hy⟩:∃ y,l[j - 1]?=some y:=⟨_,List.getElem?_eq_getElem (by omega)⟩
     have e3:ko (fun x:qs=>x.Id) l j x=leB x.Id y.Id:=by simp [ko,h0,hy]
     have e2:decide (0 < (j:Int))=true:=by simpa using h0
     rw [e3,e2,w3m h0,hy]
     simp only [if_true,Option.bind_some]
     show (if leB x.Id y.Id=true then _ else _)=_
     cases leB x.Id y.Id
     ·cases (outP x.At 0 x.Until || decide (345686400000 < x.Until)) <;> rfl
     ·rfl
    ·have e3:ko (fun x:qs=>x.Id) l j x=false:=by simp [ko,h0]
     have e2:decide (0 < (j:Int))=false:=by simpa using h0
     rw [e3,e2]
     simp only [Bool.false_eq_true,if_false]
     cases (outP x.At 0 x.Until || decide (345686400000 < x.Until)) <;> rfl
  rw [h]
  by_cases h2:chR (fun x:qs=>x.Id) gRv l []=0
  ·rw [if_neg (not_not_intro h2),h2]
  ·rw [if_pos h2]
theorem z98 (p:UInt8→Bool):∀ l:Bs,l.dropWhile p=[]↔l.all p=true
 | []=>by simp
 | c::l=>by
  rw [List.dropWhile_cons,List.all_cons]
  cases h:p c
  ·simp
  ·simpa using z98 p l
theorem y90 (p:UInt8→Bool):∀ (l t:Bs) (c:UInt8),l.dropWhile p=c::t→p c=false
 | [],_,_,h=>by cases h
 | d::l,t,c,h=>by
  rw [List.dropWhile_cons] at h
  cases hd:p d
  ·rw [hd] at h
   have:d=c:=by simpa using (List.cons.inj h).1
   rw [← this]; exact hd
  ·rw [hd] at h
   exact y90 p l t c (by simpa using h)
theorem w09 (s:Bs):(Lib.trimS s xdL=[])↔s.all isX=true:=by
 unfold Lib.trimS Lib.trimLeftS Lib.trimRightS
 show (List.dropWhile isX (List.dropWhile isX s.reverse).reverse=[])↔_
 rw [z98,List.all_reverse]
 constructor
 ·intro h
  cases hd:List.dropWhile isX s.reverse with
  | nil =>
   have:=(z98 isX s.reverse).1 hd
   rwa [List.all_reverse] at this
  | cons c t =>
   have h1:=y90 isX _ _ _ hd
   rw [hd] at h
   simp [h1] at h
 ·intro h
  rw [(z98 isX s.reverse).2 (by rw [List.all_reverse]; exact h)]; rfl
def smB (s:Bs):Bool:=decide (s.length=16) && s.all isX
theorem w02 (s:Bs):z4v s=some (smB s):=by
 unfold z4v z0x smB
 by_cases h:s.length=16
 ·rw [if_pos (by simp; omega)]
  unfold z89
  rw [if_pos ⟨⟨by omega,by decide⟩,by decide⟩]
  simp only [Option.bind_some]
  have ht:=w09 s
  cases hx:s.all isX
  ·have:¬ Lib.trimS s xdL=[]:=fun h=>by rw [ht.1 h] at hx; cases hx
   simp [h,this]
  ·simp [h,ht.2 hx]
 ·rw [if_neg (by simp; omega)]
  simp [h]
def y49 (y x:vp):Bool:=Op.bytesLess x.App y.App || (decide (x.App=y.App) && leB x.Sum y.Sum)
structure HoB (l:List vp):Prop where
 len:l.length≤20
 key:∀ x,x∈l→x.App.length≤1000∧x.Sum.length≤1000∧Sh x.Scopes
 few:∀ x,x∈l→x.Scopes.length≤60
def z58 (l:List vp) (k:Nat) (x:vp):Bool:=decide (0 < k) && match l[k - 1]? with | some y=>y49 y x | none=>false
def ho1 (l:List vp) (k:Nat) (x:vp):Int:=
 if (!keyP x.App)=true then 5 else if (!smB x.Sum)=true then 3 else if z58 l k x=true then 7 else if scF x.Scopes≠0 then scF x.Scopes
 else if (outP x.From 0 x.To || decide (345686400000 < x.To))=true then 1 else 0
def hoF (l:List vp):Int:=if 500 < l.length then 2 else feI (ho1 l) 0 l
theorem w1b (l:List vp) (hl:HoB l) (k:Nat) (x:vp) (hx:l[k]?=some x):z4x l (k:Int)=some (ho1 l k x):=by
 have hk:=kn hx
 have hb:=hl.key x (List.mem_of_getElem? hx)
 have hn:=hl.len
 have hJ:∀ b,xu x b=some (if b=true then 7 else if scF x.Scopes≠0 then scF x.Scopes else if (outP x.From 0 x.To || decide (345686400000 < x.To))=true then 1 else 0):=by
  intro b
  unfold xu
  rw [z6y x.Scopes hb.2.2,z4h]
  simp only [Option.bind_some]
  cases b
  ·by_cases h2:scF x.Scopes=0
   ·simp only [h2,Bool.false_eq_true,if_false,ne_eq,not_true_eq_false,decide_false]
    cases (outP x.From 0 x.To || decide (345686400000 < x.To)) <;> rfl
   ·simp [h2]
  ·rfl
 unfold z4x ho1
 rw [Yz,hx]
 simp only [Option.bind_some]
 rw [kk x.App (by omega),w02]
 simp only [Option.bind_some,hJ]
 cases keyP x.App
 ·rfl
 ·cases smB x.Sum
  ·rfl
  ·simp only [Bool.not_true,Bool.false_eq_true,if_false]
   by_cases h0:0 < k
   ·obtain ⟨y,hy⟩:∃ y,l[k - 1]?=some y:=⟨_,List.getElem?_eq_getElem (by omega)⟩
    have e1:at? l (wr ((k:Int) - 1))=some y:=by
     rw [qw (by omega),show (k:Int) - 1=((k - 1:Nat):Int) by omega,Yz]; exact hy
    have e3:z58 l k x=y49 y x:=by simp [z58,h0,hy]
    rw [if_pos (by simpa using h0),e1,e3]
    simp only [Option.bind_some]
    unfold y49
    show (if Op.bytesLess x.App y.App=true then _ else if decide (x.App=y.App)=true then some (if leB x.Sum y.Sum=true then _ else _) else _)=_
    cases Op.bytesLess x.App y.App
    ·cases decide (x.App=y.App)
     ·rfl
     ·rfl
    ·rfl
   ·have e3:z58 l k x=false:=by simp [z58,h0]
    rw [if_neg (by simpa using h0),e3]
    rfl
theorem w21 (l:List vp) (hl:HoB l):z5d l=some (hoF l):=by
 have hn:=hl.len
 unfold z5d hoF
 by_cases h1:500 < l.length
 ·rw [if_pos (by simp; omega),if_pos h1]
 ·rw [if_neg (by simp; omega),if_neg h1,if_pos (by omega)]
  refine z2r rfl l 0 fun j x _ hx => ?_
  have hx:l[j]?=some x:=by simpa using hx
  unfold z77
  rw [w1b l hl j x hx]
  simp only [Option.bind_some]
  by_cases h2:ho1 l j x=0 <;> simp [h2]
structure KeB (k:vg):Prop where
 iss:k.Issuer.length≤1000
 aud:k.Audience.length≤1000
 sg:SgB k.Signers
 rv:RvB k.Revoked
 ho:HoB k.Holders
def kpF (k:vg):Int:=if (!keyP k.Issuer || !keyP k.Audience)=true then 5 else if sgF k.Signers≠0 then sgF k.Signers else if rvF k.Revoked≠0 then rvF k.Revoked else if hoF k.Holders≠0 then hoF k.Holders else if outP k.Skew 0 600000=true then 1 else 0
theorem w20 (k:vg) (hk:KeB k):z1t k=some (kpF k):=by
 have hJ:∀ b,Qp k b=some (if b=true then 5 else if sgF k.Signers≠0 then sgF k.Signers else if rvF k.Revoked≠0 then rvF k.Revoked else if hoF k.Holders≠0 then hoF k.Holders else if outP k.Skew 0 600000=true then 1 else 0):=by
  intro b
  unfold Qp
  rw [x0w _ hk.sg,w2z _ hk.rv,w21 _ hk.ho,z4h]
  simp only [Option.bind_some]
  cases b
  ·by_cases h1:sgF k.Signers=0
   ·by_cases h2:rvF k.Revoked=0
    ·by_cases h3:hoF k.Holders=0
     ·cases h4:outP k.Skew 0 600000 <;> simp [h1,h2,h3]
     ·simp [h1,h2,h3]
    ·simp [h1,h2]
   ·simp [h1]
  ·rfl
 unfold z1t kpF
 rw [kk _ (by have:=hk.iss; omega),kk _ (by have:=hk.aud; omega)]
 simp only [Option.bind_some,hJ]
 cases keyP k.Issuer
 ·rfl
 ·cases keyP k.Audience <;> rfl
def tokL:Bs:=[97,98,99,100,101,102,103,104,105,106,107,108,109,110,111,112,113,114,115,116,117,118,119,120,121,122,65,66,67,68,69,70,71,72,73,74,75,76,77,78,79,80,81,82,83,84,85,86,87,88,89,90,48,49,50,51,52,53,54,55,56,57,33,35,36,37,38,39,42,43,45,46,94,95,96,124,126]
def tokB (s:Bs):Bool:=s.all (fun c=>tokL.contains c) && (decide (s≠[]) && decide ((s.length:Int)≤100))
theorem x3s (c:UInt8):z5j (c.toNat:Int)=some (tokL.contains c):=by
 have:=ug (fun c=>decide (z5j (c.toNat:Int)=some (tokL.contains c))) (by decide +kernel) c
 exact of_decide_eq_true this
theorem y4d (s:Bs) (h:s.length≤1000000000):Yo s=some (tokB s):=by
 unfold Yo
 rw [if_pos h,xk (p:=fun _ c=>tokL.contains c) (e:=(decide (s≠[]) && decide ((s.length:Int)≤100))) (r0:=false) rfl s 0 (fun j x _ _ => ?_),z29]
 ·unfold tokB
  cases s.all fun c=>tokL.contains c <;> rfl
 ·unfold z84
  rw [x3s]
  simp only [Option.bind_some]
  cases tokL.contains x <;> rfl
theorem x3r (s:Bs) (h:s.length≤1000000000):y3j s=some (tokB s):=by
 unfold y3j y4o
 rw [y9v]
 simp only [Option.bind_some]
 have ho:=y2s s tokL h
 have hc:(!outP (s.length:Int) 1 100)=(decide (s≠[]) && decide ((s.length:Int)≤100)):=by
  rw [y76]
  cases s with
  | nil=>rfl
  | cons a l=>simp; omega
 rw [hc]
 unfold tokB
 cases (decide (s≠[]) && decide ((s.length:Int)≤100))
 ·simp
 ·simp only [if_true,Bool.and_true]
  show (z14 s tokL).bind _=_
  rw [ho]; rfl
def rgB (s:Bs) (lo hi:Int):Bool:=s.all fun c => !outP (c.toNat:Int) lo hi
theorem y4e (s:Bs) (lo hi:Int) (h:s.length≤1000000000):Wv s lo hi=some (rgB s lo hi):=by
 unfold Wv z8x
 rw [if_pos h,xk (p:=fun _ c => !outP (c.toNat:Int) lo hi) (e:=true) (r0:=false) rfl s 0 (fun j x _ _ => ?_),z29]
 ·unfold rgB
  cases s.all fun c => !outP (c.toNat:Int) lo hi <;> rfl
 ·unfold z8w z1g outP
  by_cases h1:(x.toNat:Int) < lo <;> by_cases h2:hi < (x.toNat:Int) <;> simp [h1,h2]
theorem x6h {s:Bs} {lo:Int} (h:rgB s lo 126=true):ascB s=true:=by
 unfold rgB at h
 unfold ascB
 rw [List.all_eq_true] at h ⊢
 intro c hc
 have:=h c hc
 unfold outP at this
 simp at this ⊢
 omega
def fldB (s:Bs):Bool:=decide ((s.length:Int)≤2000) && (rgB s 32 126 && decide (trL 32 (trR 32 s)=s))
theorem y4f (s:Bs) (h:s.length≤1000000000):Wx s=some (fldB s):=by
 unfold Wx Wj fldB
 rw [y4e s _ _ h]
 by_cases h1:(s.length:Int)≤2000
 ·rw [if_pos (by simpa using h1)]
  simp only [Option.bind_some]
  cases rgB s 32 126
  ·simp
  ·rw [if_pos rfl,y6k 32 (by decide) s h]
   simp [h1]
 ·rw [if_neg (by simpa using h1)]
  simp [h1]
theorem w1u (s:Bs):y8q s=Wx s:=rfl
def hdP (h:yj):Prop:=h.Name.length≤100000∧h.Value.length≤100000
def hdsP (l:List yj):Prop:=l.length≤1000∧∀ h,h∈l→hdP h
def hdE (h:yj):Int:=if tokB h.Name then (if fldB h.Value then 0 else 3) else 5
def hdsE (l:List yj):Int:=if 50 < (l.length:Int) then 2 else feI (fun _ h=>hdE h) 0 l
theorem y9z (l:List yj) (h:hdsP l):z10 l=some (hdsE l)∧y8p l=some (hdsE l):=by
 constructor
 ·unfold z10 z86 hdsE
  by_cases h0:50 < (l.length:Int)
  ·rw [if_pos (by simpa using h0),if_pos h0]
  ·rw [if_neg (by simpa using h0),if_neg h0,if_pos (by have:=h.1; omega)]
   refine z2r rfl l 0 fun j x _ hj => ?_
   obtain ⟨h1,h2⟩:=h.2 x (List.mem_of_getElem? hj)
   unfold z85 hdE
   rw [y4d _ (by omega),y4f _ (by omega)]
   simp only [Option.bind_some]
   cases tokB x.Name <;> cases fldB x.Value <;> simp
 ·unfold y8p x0b hdsE
  by_cases h0:50 < (l.length:Int)
  ·rw [if_pos (by simpa using h0),if_pos h0]
  ·rw [if_neg (by simpa using h0),if_neg h0,if_pos (by have:=h.1; omega)]
   refine z2r rfl l 0 fun j x _ hj => ?_
   obtain ⟨h1,h2⟩:=h.2 x (List.mem_of_getElem? hj)
   unfold x0a hdE
   rw [x3r _ (by omega),w1u,y4f _ (by omega)]
   simp only [Option.bind_some]
   cases tokB x.Name <;> cases fldB x.Value <;> simp
def pthB (s:Bs):Bool:=decide ((s.length:Int)≤1000) && (Lib.hasPrefix s [47] && (rgB s 33 126 && !Lib.containsAny s [63,35]))
theorem x6w (s:Bs) (h:s.length≤1000000000) (hr:rgB s 33 126=true):z5f s [63,35]=some (Lib.containsAny s [63,35]):=by
 unfold z5f
 rw [if_pos ⟨⟨h,by simp⟩,x6h hr,rfl⟩]
theorem x6x (s:Bs) (h:s.length≤1000000000):Ww s=some (if pthB s then 0 else 3):=by
 unfold Ww Ye pthB Wp
 rw [y4e s _ _ h]
 by_cases h1:1000 < (s.length:Int)
 ·have h2:¬ (s.length:Int)≤1000:=by omega
  rw [if_pos (by simpa using h1)]
  simp [h2]
 ·have h2:(s.length:Int)≤1000:=by omega
  rw [if_neg (by simpa using h1)]
  simp only [Option.bind_some]
  cases Lib.hasPrefix s [47]
  ·simp
  ·cases hr:rgB s 33 126
   ·simp
   ·rw [x6w s h hr]
    cases hc:Lib.containsAny s [63,35] <;> simp [h2]
def qryB (s:Bs):Bool:=decide ((s.length:Int)≤1000) && (rgB s 33 126 && !Lib.contains s [35])
theorem x6q (s:Bs) (h:s.length≤1000000000):z5h s=some (if qryB s then 0 else 3):=by
 unfold z5h We qryB z9c
 rw [y4e s _ _ h,if_pos h]
 by_cases h1:1000 < (s.length:Int)
 ·have h2:¬ (s.length:Int)≤1000:=by omega
  rw [if_pos (by simpa using h1)]
  simp [h2]
 ·have h2:(s.length:Int)≤1000:=by omega
  rw [if_neg (by simpa using h1)]
  simp only [Option.bind_some]
  cases hr:rgB s 33 126
  ·simp
  ·cases hc:Lib.contains s [35] <;> simp [h2]
noncomputable def y9s (s:Bs):Option Bool:=
 forL (fun (k:Nat) (x:Bs) (_:Unit)=>z8y k x) (fun (_:Unit)=>z8z s (Lib.cut s [58])) 0 (spl 46 (Lib.cut s [58]).1) ()
theorem w2k (s:Bs) (c:UInt8):(Lib.cut s [c]).1.length≤s.length:=by
 unfold Lib.cut
 split
 ·simp; omega
 ·exact Nat.le_refl _
theorem w04 (s:Bs) (h:s.length≤100000):z1x s=y9s s:=by
 have h1:=w2k s 58
 have h2:=Yc 46 (Lib.cut s [58]).1
 unfold z1x y9s Zi jj
 rw [if_pos (by omega)]
 simp only [Option.bind_some]
 rw [if_pos ⟨by omega,by simp⟩,z38]
 simp only [Option.bind_some]
 rw [if_pos (by omega)]
abbrev lo (s:Bs):Bs:=Lib.toLowerA s
theorem y8s (x:UInt8):(Lib.lowerB x).toNat=if 65≤x.toNat∧x.toNat≤90 then x.toNat+32 else x.toNat:=by
 have:=ug (fun x=>decide ((Lib.lowerB x).toNat=if 65≤x.toNat∧x.toNat≤90 then x.toNat+32 else x.toNat)) (by decide +kernel) x
 exact of_decide_eq_true this
theorem w1m (x y:UInt8):Lib.foldEq x y=decide (Lib.lowerB x=Lib.lowerB y):=by
 unfold Lib.foldEq
 refine decide_eq_decide.2 ?_
 rw [← UInt8.toNat_inj,y8s,y8s]
 split <;> split <;> omega
theorem x0k:∀ a b:Bs,Lib.equalFold a b=decide (lo a=lo b)
 | [],[]=>rfl
 | [],y::t=>by simp [Lib.equalFold,lo,Lib.toLowerA]
 | x::s,[]=>by simp [Lib.equalFold,lo,Lib.toLowerA]
 | x::s,y::t=>by
  have ih:=x0k s t
  show (Lib.foldEq x y && Lib.equalFold s t)=_
  rw [w1m,ih]
  unfold lo Lib.toLowerA
  simp only [List.map_cons,List.cons.injEq]
  by_cases h1:Lib.lowerB x=Lib.lowerB y <;> simp [h1]
theorem x3t {s:Bs} (h:tokB s=true):ascB s=true:=by
 unfold tokB at h
 simp only [Bool.and_eq_true] at h
 unfold ascB
 refine List.all_eq_true.2 fun c hc => ?_
 have h1:=List.all_eq_true.1 h.1 c hc
 have h2:=ug (fun c => !tokL.contains c || decide (c.toNat < 128)) (by decide +kernel) c
 rw [h1] at h2
 simpa using h2
def nmB (n:Bs) (h:yj):Bool:=decide (lo h.Name=lo n)
def nmOK (h:yj):Prop:=ascB h.Name=true∧h.Name.length≤100000
theorem x7i (h:yj) (n:Bs) (h1:nmOK h) (h2:ascB n=true):z5k h n=some (nmB n h):=by
 unfold z5k z9b
 rw [if_pos ⟨by have:=h1.2; omega,h1.1,h2⟩]
 simp only [Option.bind_some,x0k]
 rfl
theorem w3w (a b:Bs) (ha:ascB a=true∧a.length≤100000) (hb:ascB b=true∧b.length≤100000):y3i a b=some (decide (lo a=lo b)):=by
 unfold y3i Zg
 rw [if_pos ⟨by omega,ha.1⟩]
 simp only [Option.bind_some]
 rw [if_pos ⟨by omega,hb.1⟩]
 rfl
theorem w2n (s:Bs) (c:UInt8):(Lib.cut s [c]).1.length≤s.length∧(Lib.cut s [c]).2.1.length≤s.length∧(∀ x,x∈(Lib.cut s [c]).1→x∈s)∧∀ x,x∈(Lib.cut s [c]).2.1→x∈s:=by
 unfold Lib.cut
 split
 ·exact ⟨by simp; omega,by simp,fun x hx=>List.mem_of_mem_take hx,fun x hx=>List.mem_of_mem_drop hx⟩
 ·exact ⟨Nat.le_refl _,by simp,fun x hx=>hx,fun x hx=>by cases hx⟩
theorem y2a (c:UInt8):∀ (s:Bs) (x:UInt8),x∈s→x≠c→∃ p,p∈spl c s∧x∈p
 | [],x,hx,_=>by cases hx
 | b::l,x,hx,hn=>by
  have ih:=y2a c l x
  unfold spl
  rcases List.mem_cons.1 hx with h | h
  ·rw [if_neg (by rw [← h]; exact hn)]
   split
   ·exact ⟨_,List.mem_cons_self,by rw [h]; simp⟩
   ·exact ⟨_,List.mem_cons_self,by rw [h]; simp⟩
  ·obtain ⟨p,h1,h2⟩:=ih h hn
   split
   ·exact ⟨p,List.mem_cons_of_mem _ h1,h2⟩
   ·split
    ·rename_i q ps hq
     rw [hq] at h1
     rcases List.mem_cons.1 h1 with rfl | h1
     ·exact ⟨_,List.mem_cons_self,List.mem_cons_of_mem _ h2⟩
     ·exact ⟨p,List.mem_cons_of_mem _ h1,h2⟩
    ·rename_i hq
     rw [hq] at h1; cases h1
def kt (n:Bs) (l:List yj):List Bs:=(l.filter (nmB n)).map fun x=>x.Value
theorem y5q (n:Bs) (hn:ascB n=true):∀ (l:List yj) (k:Nat) (q:List Bs),(∀ x,x∈l→nmOK x)→q.length+l.length≤1000 →
  forL (fun (k:Nat) (x:yj) (s:(List Bs))=>Wi n k x s) (fun (s:(List Bs))=>z81 s) k l q=some (q++kt n l)
 | [],k,q,_,_=>by show some q=_; simp [kt]
 | x::l,k,q,h,hl=>by
  simp only [List.length_cons] at hl
  have hst:Wi n k x q=some (.inl (if nmB n x then q++[x.Value] else q)):=by
   unfold Wi z1j
   rw [x7i x n (h x (by simp)) hn]
   simp only [Option.bind_some]
   cases nmB n x
   ·rfl
   ·simp only [if_true]; rw [if_pos (by omega)]
  show (Wi n k x q).bind _=_
  rw [hst]
  have ih:=y5q n hn l (k+1) (if nmB n x then q++[x.Value] else q) (fun y hy=>h y (List.mem_cons_of_mem _ hy)) (by split <;> first | omega | (simp only [List.length_append,List.length_cons,List.length_nil]; omega))
  refine Eq.trans ih ?_
  unfold kt
  rw [List.filter_cons]
  cases nmB n x <;> simp
theorem y5p (n:Bs) (hn:ascB n=true∧n.length≤100000):∀ (l:List yj) (k:Nat) (q:List Bs),(∀ x,x∈l→nmOK x)→q.length+l.length≤1000 →
  forL (fun (k:Nat) (x:yj) (s:(List Bs))=>z6t n k x s) (fun (s:(List Bs))=>y98 s) k l q=some (q++kt n l)
 | [],k,q,_,_=>by show some q=_; simp [kt]
 | x::l,k,q,h,hl=>by
  simp only [List.length_cons] at hl
  have hst:z6t n k x q=some (.inl (if nmB n x then q++[x.Value] else q)):=by
   unfold z6t y4n
   rw [w3w x.Name n (h x (by simp)) hn]
   simp only [Option.bind_some]
   show (if nmB n x=true then _ else _)=_
   cases nmB n x
   ·rfl
   ·simp only [if_true]; rw [if_pos (by omega)]
  show (z6t n k x q).bind _=_
  rw [hst]
  have ih:=y5p n hn l (k+1) (if nmB n x then q++[x.Value] else q) (fun y hy=>h y (List.mem_cons_of_mem _ hy)) (by split <;> first | omega | (simp only [List.length_append,List.length_cons,List.length_nil]; omega))
  refine Eq.trans ih ?_
  unfold kt
  rw [List.filter_cons]
  cases nmB n x <;> simp
theorem z67 (l:List yj) (n:Bs) (hl:l.length≤1000) (h:∀ x,x∈l→nmOK x) (hn:ascB n=true∧n.length≤100000):kh l n=some (kt n l)∧y8n l n=some (kt n l):=by
 constructor
 ·unfold kh
  rw [if_pos (by omega),y5q n hn.1 l 0 [] h (by simpa using hl)]; rfl
 ·unfold y8n
  rw [if_pos (by omega),y5p n hn l 0 [] h (by simpa using hl)]; rfl
section
end
def hdA (h:yj):Prop:=hdP h∧nmOK h
section
variable {r3:Int×qq} {r5:(List yj)×qq} (h5:r5.1.length≤10∧∀ y,y∈r5.1→hdA y)
include h5
end
end Go.Proofs.YtbndlmnjeofkdadGreatDoor
