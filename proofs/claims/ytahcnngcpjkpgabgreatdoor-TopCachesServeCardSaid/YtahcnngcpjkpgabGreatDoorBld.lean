/- strings.Builder: what its methods do with own objects: a box of two cells and a row of bytes. -/
import Derived.Test.YtahcnngcpjkpgabGreatDoorLibK
import Derived.Test.YtahcnngcpjkpgabGreatDoorTy
import Derived.Test.YtahcnngcpjkpgabGreatDoorShelf
import Derived.Lib.AppendStr
import Derived.Lib.UnsafeStr
namespace Go.Proofs.YtahcnngcpjkpgabGreatDoor
open Go.RowKit Go.Shelf
set_option linter.unusedVariables false

theorem w3s {P:Program} {w:World} (t u ty e:TypeId) (i:TypeInfo) (ht:P.underlying t=some (.slice e)) (hu:P.underlying u=some .string) (hi:P.info? e=some i) (hz:i.zero=some (.int .u8 0)) (hsize:i.size=1) (hby:i.bytes=1)
  (v:Value) (n:Nat) (xs:List Value) (hown:w.ownsRow 0 e 1 v n xs) (s:ByteArray) (h:n+s.size≤1000000000) :
  ∃ v' w',(Builtin.append_ #[t,u] ty #[v,.string s]).run P w = .ok v' w'∧w'.ownsRow 0 e 1 v' (n+s.size) (xs++Lib.strCells s)∧w.grownBy w' v.ownBlock∧(v'.ownBlock=v.ownBlock∨v'.ownBlock=some w.heap.size)∧(s.size=0→v'=v):=by
 obtain ⟨v',w',hr,h2,h3,h4⟩:=Lib.run_append_own_string (P:=P) w 0 t u ty e i ht hu hi hz hsize hby v n xs hown s (by unfold maxLen; omega) (by omega) (Nat.zero_le _)
 refine ⟨v',w',hr,h2,h3,?_⟩
 have hxl:xs.length=n:=by simpa using hown.1
 rcases hown.2 with ⟨rfl,rfl⟩ | ⟨g,cap,cur,rfl,hbg,hg,hnc,hcm,hcs,htake⟩
 ·by_cases hm:s.size=0
  ·have:=h4.2 ⟨rfl,hm⟩
   exact ⟨.inl (by rw [this]),fun _=>this⟩
  ·have hr':=run_append_nil_string (P:=P) w t u ty e i (.int .u8 0) ht hu hi hz s (by omega) (by omega) (by rw [hby]; omega)
   rw [hr'] at hr
   cases hr
   exact ⟨.inr rfl,fun h=>absurd h hm⟩
 ·by_cases hroom:n+s.size≤cap
  ·have hcs':cur.size=cap:=by simpa using hcs
   have hr':=Lib.run_append_room_string (P:=P) w t u ty e i ht hu hi hsize g n cap cur hg s hroom (by omega)
   rw [hr'] at hr
   cases hr
   exact ⟨.inl rfl,fun h=>by rw [h]; rfl⟩
  ·have holds:∀ j u,xs[j]?=some u→w.cell? ((⟨g,0,none⟩:Addr).add j)=some u:=hown.cells (g:=g) rfl
   have hr':=Lib.run_append_grow_string (P:=P) w t u ty e i (.int .u8 0) ht hu hi hz ⟨g,0,none⟩ n cap xs (by rw [hsize]; simpa using hxl) holds s (by omega) (by omega) (by rw [hby]; exact growslice_fits (by omega) (by omega))
   rw [hr'] at hr
   cases hr
   exact ⟨.inr rfl,fun h=>absurd h (by omega)⟩
def tyB8 (P:Program) (t u e:TypeId):Prop:=P.underlying t=some (.slice e)∧P.underlying u=some .string∧(P.info? e).map (fun i=>(i.zero,i.size,i.bytes))=some (some (.int .u8 0),1,1)
def byV (s:Bs):List (List V):=s.map fun c=>[vval (.int .u8 (c.toNat:Int))]
section
variable {P:Program} {f:Nat→Slot} {dst:Option Tmp} {ty:TypeId} {pos:String} {af:Array Edge} {gd:Option (Nat×Bool)}
theorem w3u {t u:TypeId} {x y:Operand} {v1 v2 v':Value} {w w':World} {ev:Operand→Value} (hx:ev x=v1) (hy:ev y=v2) (h:(Builtin.append_ #[t,u] ty #[v1,v2]).run P w = .ok v' w') :
  (execOp ev ⟨dst,.call { callee := .builtin .append,args := #[x,y],argTypes := #[t,u] },ty,pos,af,gd⟩).run P w = .ok (.value v') w':=by
 subst hx hy
 simp only [execOp,resolve,invoke,builtin,Sem.run_bind,Sem.run_pure,Result.andThen_ok,List.map_toArray,List.map_cons,List.map_nil]
 rw [h]
 rfl
theorem w2m {t u e:TypeId} {x y:Operand} {id:Nat} {es:List (List V)} {s:Bs} (hT:tyB8 P t u e) (hx:evS f x = .row id es.length) (hy:evS f y = .dat (vstr s)) (hlen:es.length+s.length≤1000000000) :
  Stp P ⟨dst,.call { callee := .builtin .append,args := #[x,y],argTypes := #[t,u] },ty,pos,af,gd⟩ f ⟨false,[(id,some (some (.row e 1 es)))],[(id,some (some (.row e 1 (es++byV s))))],.row id (es++byV s).length⟩:=by
 obtain ⟨ht,hu,hi⟩:=hT
 refine Qc fun X f' own g a w hr ho h => ?_
 have h1:=h x (by simp [Op.operands,Call.operands])
 have h2:=h y (by simp [Op.operands,Call.operands])
 rw [hx] at h1
 rw [hy] at h2
 obtain ⟨v,xs,q1,q2,q3,q4,q5⟩:=hr.ob id _ ho
 have hv:g.sv id es.length=some (a.eval x):=h1
 rw [hv] at q1
 cases q1
 have h2:a.eval y = .string ⟨s.toArray⟩:=h2
 have hsz:(ByteArray.mk s.toArray).size=s.length:=by simp [ByteArray.size]
 cases hq:P.info? e with
 | none=>rw [hq] at hi; cases hi
 | some i =>
  rw [hq] at hi
  simp only [Option.map_some,Option.some.injEq,Prod.mk.injEq] at hi
  obtain ⟨v',w',r1,r2,r3,r4,r5⟩:=w3s (P:=P) t u ty e i ht hu hq hi.1 hi.2.1 hi.2.2 _ es.length xs q2 ⟨s.toArray⟩ (by rw [hsz]; exact hlen)
  rw [hsz] at r2 r5
  have hbl:(byV s).length=s.length:=by simp [byV]
  have hln:(es++byV s).length=es.length+s.length:=by rw [List.length_append,hbl]
  have hsc:Lib.strCells ⟨s.toArray⟩=s.map fun b=>Value.int .u8 (b.toNat:Int):=by simp [Lib.strCells]
  rw [hsc] at r2
  let g':Gh:=⟨g.bl,fun i k=>if i=id∧k=(es++byV s).length then some v' else g.sv i k⟩
  have hsv:g'.sv id (es++byV s).length=some v':=if_pos ⟨rfl,rfl⟩
  have hxl:xs.length=es.length:=by simpa using q2.1
  refine ⟨g',w',.value v',v',⟨fun _ _ h=>h,fun i k u hu => ?_⟩,fun i hi=>⟨rfl,fun k=>if_neg fun h=>hi h.1⟩,w3u rfl h2 r1,.inl rfl,?_,fun b hb => ?_,fun e' s' es' he k hk => ?_,fun M' he=>⟨⟨v',_,hsv,by rw [hln]; exact r2,by decide,fun el hel => ?_,fun k c el u hk hc => ?_⟩,hsv⟩⟩
  ·show (if i=id∧k=(es++byV s).length then some v' else g.sv i k)=some u
   by_cases hc:i=id∧k=(es++byV s).length
   ·rw [if_pos hc]
    obtain ⟨rfl,rfl⟩:=hc
    by_cases hs0:s.length=0
    ·rw [hln,hs0,Nat.add_zero,hv] at hu
     rw [r5 hs0]; exact hu
    ·rw [hr.top i e 1 es ho _ (by omega)] at hu
     cases hu
   ·rw [if_neg hc]; exact hu
  ·cases hb:(a.eval x).ownBlock with
   | none=>exact .inl ⟨r3.os,r3.tape,r3.output,r3.size,fun k hk _=>r3.block k hk (by rw [hb]; simp)⟩
   | some b =>
    refine .inr ⟨_,b,ho,by simp only [obk]; rw [hv]; exact hb,⟨r3.os,r3.tape,r3.output,r3.size,fun k hk hn=>r3.block k hk (fun e=>hn (by rw [hb] at e; simpa using e))⟩⟩
  ·simp only [obk,hsv,Option.bind_some] at hb
   rcases r4 with h4 | h4
   ·exact .inr ⟨_,ho,by simp only [obk]; rw [hv]; rw [h4] at hb; exact hb⟩
   ·rw [h4] at hb; cases hb; exact .inl (Nat.le_refl _)
  ·cases he
   show (if id=id∧k=(es++byV s).length then some v' else g.sv id k)=none
   rw [if_neg (by omega)]
   exact hr.top id e 1 es ho k (by omega)
  ·rcases List.mem_append.1 hel with h | h
   ·exact q4 el h
   ·obtain ⟨c,_,rfl⟩:=List.mem_map.1 h; rfl
  ·rcases Nat.lt_or_ge k es.length with hl | hl
   ·rw [List.getElem?_append_left hl] at hk
    obtain ⟨x,p1,p2,p3⟩:=q5 k c el u hk hc
    have hel:=q4 el (List.mem_of_getElem? hk)
    have hcl:=(List.getElem?_eq_some_iff.1 hc).1
    exact ⟨x,by rw [List.getElem?_append_left (by omega)]; exact p1,u.keep he p2,p3⟩
   ·rw [List.getElem?_append_right hl] at hk
    unfold byV at hk
    rw [List.getElem?_map] at hk
    cases hq2:s[k - es.length]? with
    | none=>rw [hq2] at hk; cases hk
    | some b =>
     rw [hq2] at hk
     cases hk
     rcases c with _ | c
     ·cases hc
      refine ⟨.int .u8 (b.toNat:Int),?_,rfl,rfl⟩
      rw [List.getElem?_append_right (by omega),show k * 1+0 - xs.length=k - es.length by omega,List.getElem?_map,hq2]
      rfl
     ·simp at hc
structure CC (P:Program) (fn:Nat) (tB:TypeId):Prop where
 ok:kx P fn=true
 fresh:∀ (b:Nat) (w:World),w.cell? ⟨b,0,none⟩=some (.pointer none)→w.shape? b=some (tB,2)→w.frozen? ⟨b,0,none⟩=false→Calls P fn #[.pointer (some ⟨b,0,none⟩)] w fun e w'=>e = .returned (.tuple #[])∧w'=w.setCell ⟨b,0,none⟩ (.pointer (some ⟨b,0,none⟩))
 used:∀ (b:Nat) (w:World),w.cell? ⟨b,0,none⟩=some (.pointer (some ⟨b,0,none⟩))→Calls P fn #[.pointer (some ⟨b,0,none⟩)] w fun e w'=>e = .returned (.tuple #[])∧w'=w
theorem x2s {fn:Nat} {tB:TypeId} (hC:CC P fn tB) {x:Operand} {ts:Array TypeId} {id:Nat} {an:Option Nat} {s:Slot} (hx:evS f x = .ptr id 0) :
  Stp P ⟨dst,.call { callee := .value (.func fn),args := #[x],argTypes:=ts },ty,pos,af,gd⟩ f ⟨false,[(id,some (some (.box an tB [.nptr id,s])))],[(id,some (some (.box an tB [.nptr id,s])))],.dat (zr [])⟩:=by
 intro X f' own g a w Q hr hd hxo hrd K hK
 have ho:own id=some (some (.box an tB [.nptr id,s])):=hrd (id,_) (by simp)
 have h1:=hr.ev x
 rw [hxo x (by simp [Op.operands,Call.operands]),hx] at h1
 obtain ⟨b,h2,h3⟩:=h1
 obtain ⟨b',l,q1,q0,q2,q3,q4⟩:=hr.ob id _ ho
 rw [h2] at q1
 cases q1
 obtain ⟨x0,p1,p2,p3⟩:=q4 0 _ rfl
 obtain ⟨x1,p4,p5,p6⟩:=q4 1 s rfl
 have hl:l=[x0,x1]:=by
  rcases l with _ | ⟨y0,_ | ⟨y1,_ | ⟨y2,l⟩⟩⟩
  ·cases p1
  ·cases p4
  ·cases p1; cases p4; rfl
  ·simp at q3
 subst hl
 unfold Oper.wp
 rw [z4j hC.ok #[x] ts a.eval rfl w]
 show Calls P fn (#[x].map a.eval) w _
 have ea : #[x].map a.eval = #[.pointer (some ⟨b,0,none⟩)]:=by simp [h3]
 rw [ea]
 have hc0:w.cell? ⟨b,0,none⟩=some x0:=by rw [cell_of_row w b _ _ _ _ q2]; rfl
 have p2:x0 = .pointer none∨∃ b',g.bl id=some b'∧x0 = .pointer (some ⟨b',0,none⟩):=p2
 have fin:∀ w':World,Kp [b] w w'→(∃ y0,w'.heap[b]?=some (.cells #[y0,x1] tB (0,0))∧(y0 = .pointer none∨y0 = .pointer (some ⟨b,0,none⟩)))→K (a.put dst (.tuple #[])) w':=fun w' hk ⟨y0,hw,hy⟩=>by
  have hst:=Qe (id:=id) (ob' := .box an tB [.nptr id,s]) (w':=w') hr (Gh.le_refl g) (fun i _=>⟨rfl,fun _=>rfl⟩) (.inr ⟨_,b,ho,h2,hk⟩) (fun b' hb' => .inr ⟨_,ho,hb'⟩) (fun e size es h=>by cases h) (fun M' he _=>⟨b,[y0,x1],h2,q0,hw,rfl,fun j s' hs=>by
   rcases j with _ | _ | j
   ·cases hs
    refine ⟨y0,rfl,?_,by rcases hy with rfl | rfl <;> rfl⟩
    rcases hy with h | h
    ·exact .inl h
    ·exact .inr ⟨b,h2,h⟩
   ·cases hs; exact ⟨x1,rfl,p5.keep he (Gh.le_refl g),p6⟩
   ·simp at hs⟩)
  exact hK g (.tuple #[]) w' (hst.1.put dst (.dat (zr [])) (.tuple #[]) hd ⟨[],rfl,rfl,fun j u hj=>by simp at hj⟩)
 rcases p2 with rfl | ⟨b',e1,rfl⟩
 ·refine (hC.fresh b w hc0 (by simp [World.shape?,q2]) (by simp [World.frozen?,q2])).mono ?_
  rintro e w' ⟨rfl,rfl⟩
  refine fin _ ((Kp.refl _ _).set_ (.inl (by simp)) _) ⟨.pointer (some ⟨b,0,none⟩),?_,.inr rfl⟩
  have:=Blk.set_ (show Blk w b tB _ from q2) 0 (.pointer (some ⟨b,0,none⟩))
  simpa [Blk] using this
 ·rw [h2] at e1
  cases e1
  refine (hC.used b w hc0).mono ?_
  rintro e w' ⟨rfl,rfl⟩
  exact fin _ (Kp.refl _ _) ⟨_,q2,.inr rfl⟩
end
section
variable {P:Program} {f:Nat→Slot} {dst:Option Tmp} {ty:TypeId} {pos:String} {af:Array Edge} {gd:Option (Nat×Bool)}
theorem w1h {t u e:TypeId} {x y:Operand} {id N:Nat} {xs:List Int} {ys:Bs} {C:Int→List V} (hC:∀ n,C n=[vval (.int .u8 n)]) (hT:tyB8 P t u e) (hx:evS f x = .row id N) (hN:N=xs.length) (hy:evS f y = .dat (vstr ys)) (hlen:xs.length+ys.length≤1000000000) :
  Stp P ⟨dst,.call { callee := .builtin .append,args := #[x,y],argTypes := #[t,u] },ty,pos,af,gd⟩ f ⟨false,[(id,some (some (.row e 1 (xs.map C))))],[(id,some (some (.row e 1 ((xs++yk ys).map C))))],.row id (xs++yk ys).length⟩:=by
 have h:=w2m (dst:=dst) (ty:=ty) (pos:=pos) (af:=af) (gd:=gd) (P:=P) (es:=xs.map C) hT (by rw [List.length_map,← hN]; exact hx) hy (by rw [List.length_map]; exact hlen)
 have e1:byV ys=(yk ys).map C:=by
  unfold byV yk
  rw [List.map_map]
  exact List.map_congr_left fun c _=>(hC _).symm
 rw [e1,← List.map_append,List.length_map] at h
 exact h
end
theorem x8t:CC Tryz.prog 63 60:=
 ⟨by kernel_rfl,fun b w h0 hs hf=>Any.Builder_copyCheck_fresh { Tryz.lays156 with } Tryz.Builder_Extra_156.toX72 b w h0 hs hf,fun b w h0=>Any.Builder_copyCheck_used { Tryz.lays156 with } Tryz.Builder_Extra_156.toX72 b w h0⟩
end Go.Proofs.YtahcnngcpjkpgabGreatDoor
