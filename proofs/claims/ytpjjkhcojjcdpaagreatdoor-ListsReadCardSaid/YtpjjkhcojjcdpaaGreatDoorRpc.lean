/- strings.Replacer: buildOnce, and the replacer of bytes on short strings. -/
import Derived.Test.YtpjjkhcojjcdpaaGreatDoorRpb
import Derived.Shelf.Spec.SlicesInsertGrow
namespace Go.Proofs.YtpjjkhcojjcdpaaGreatDoor
open Go.RowKit Go.Lib
set_option linter.unusedVariables false
set_option linter.unusedSimpArgs false
set_option maxRecDepth 100000
set_option maxHeartbeats 8000000
theorem BRep.keep {w w':World} {lo G b:Nat} {A:Array Value} (h:BRep w lo G A) (hG:b≠G) (hb:b < lo) (hk:Kp [b] w w'):BRep w' lo G A:=by
 have hc:∀ B j,B < w.heap.size→lo≤B→w'.cell? ⟨B,j,none⟩=w.cell? ⟨B,j,none⟩:=fun B j h1 h2=>World.cell?_of_block (w:=w) (a:=⟨B,j,none⟩) (hk.block B h1 (by simp; omega))
 obtain ⟨B,c,q1,q2,q3,q4,q5⟩:=h.q
 obtain ⟨B',c',s1,s2,s3,s4,s5⟩:=h.s
 exact ⟨(hk.block G h.g.lt (by simp; omega)).trans h.g,h.sz,h.tr,⟨B,c,q1,(hc B 0 q4 q5).trans q2,(hc B 1 q4 q5).trans q3,Nat.lt_of_lt_of_le q4 hk.size,q5⟩,⟨B',c',s1,(hc B' 0 s4 s5).trans s2,(hc B' 1 s4 s5).trans s3,Nat.lt_of_lt_of_le s4 hk.size,s5⟩,h.no⟩
theorem y8v (b q c:Nat) (R:Array Value) (w:World) (hb:Blk w b 125 R) (hR:R.size=5) (hql:q < w.heap.size) (hqb:q≠b)
  (h3:R[3]?=some .nilIface) (h4:R[4]?=some (.slice (some ⟨q,0,none⟩) 4 c))
  (q0:w.cell? ⟨q,0,none⟩=some (.string ⟨#[92]⟩)) (q1:w.cell? ⟨q,1,none⟩=some (.string ⟨#[92,92]⟩)) (q2:w.cell? ⟨q,2,none⟩=some (.string ⟨#[34]⟩)) (q3:w.cell? ⟨q,3,none⟩=some (.string ⟨#[92,34]⟩)) :
  Calls Tryz.prog 88 #[.pointer (some ⟨b,0,none⟩)] w fun e w'=>e = .returned (.tuple #[])∧Kp [b] w w'∧∃ G A,w.heap.size≤G∧BRep w' w.heap.size G A∧Blk w' b 125 ((R.setIfInBounds 3 (.iface 173 (.pointer (some ⟨G,0,none⟩)))).setIfInBounds 4 (.slice none 0 0)):=by
 have hm:=y8w b q c w hb.lt hql ((hb.cell 4).trans h4) q0 q1 q2 q3
 have hbl:=hb.lt
 go_enter Tryz.func88,Tryz.ntmps88
 refine wp_seq ?_
 go_wp2_with (go_at_call 116; refine hm.mono ?_; rintro e w' ⟨G,A,rfl,hk,hG,hrep⟩; have hb':=hk.blk0 hb; have s3:=(hb'.cell 3).trans h3; have f3:=hb'.frozen 3; have hb2:=hb'.set_ 3 (.iface 173 (.pointer (some ⟨G,0,none⟩))); have s4:=(hb2.cell 4).trans ((Array.getElem?_setIfInBounds_ne (by omega)).trans h4); have f4:=hb2.frozen 4)
 go_end0
 have hx:=(hk.up (S:=[b])).set_ (p:=⟨b,3,none⟩) (.inl (by simp)) (.iface 173 (.pointer (some ⟨G,0,none⟩)))
 have hy:=hx.set_ (p:=⟨b,4,none⟩) (.inl (by simp)) (.slice none 0 0)
 refine ⟨rfl,hy,G,A,hG,?_,hb2.set_ 4 _⟩
 refine hrep.keep (b:=b) (by omega) hbl ?_
 exact ((Kp.refl [b] w').set_ (p:=⟨b,3,none⟩) (.inl (by simp)) _).set_ (p:=⟨b,4,none⟩) (.inl (by simp)) _
theorem BRep.none_ {w:World} {lo G:Nat} {A:Array Value} (h:BRep w lo G A) (x:UInt8) (h1:x≠34) (h2:x≠92):w.cell? ⟨G,x.toNat,none⟩=some (.slice none 0 0):=
 (h.g.cell x.toNat).trans (h.no _ x.toNat_lt (fun e=>h1 (UInt8.toNat_inj.1 e)) (fun e=>h2 (UInt8.toNat_inj.1 e)))
theorem BRep.tr_ {w:World} {lo G:Nat} {A:Array Value} (h:BRep w lo G A):∃ H,w.cell? ⟨G,256,none⟩=some (.slice (some ⟨H,0,none⟩) 2 2):=by
 obtain ⟨H,e⟩:=h.tr
 exact ⟨H,(h.g.cell 256).trans e⟩
theorem y8r (w:World) (lo G:Nat) (A:Array Value) (h:BRep w lo G A) :
  Calls Tryz.prog 214 #[.pointer (some ⟨G,0,none⟩),.string ⟨#[]⟩] w fun e w'=>e = .returned (.string ⟨#[]⟩)∧Kp [] w w':=by
 obtain ⟨H,c256⟩:=h.tr_
 have hnot:∀ (x:Bool) (w:World),(Op.unary .not (.bool x)).run Tryz.prog w = .ok (.bool (!x)) w:=fun _ _=>rfl
 have hz:(ByteArray.mk #[]).size=0:=rfl
 go_enter Tryz.func214,Tryz.ntmps214
 go_wp2
 refine wp_loop_rounds 1 ?_
 rw [rounds_succ]
 go_wp2
 go_ret
 exact ⟨rfl,Kp.refl _ _⟩
theorem y8p (w:World) (lo G:Nat) (A:Array Value) (h:BRep w lo G A) (x y z:UInt8) (hx:x≠34∧x≠92) (hy:y≠34∧y≠92) (hz:z≠34∧z≠92) :
  Calls Tryz.prog 214 #[.pointer (some ⟨G,0,none⟩),.string ⟨#[x,y,z]⟩] w fun e w'=>e = .returned (.string ⟨#[x,y,z]⟩)∧Kp [] w w':=by
 obtain ⟨H,c256⟩:=h.tr_
 have cx:=h.none_ x hx.1 hx.2
 have cy:=h.none_ y hy.1 hy.2
 have cz:=h.none_ z hz.1 hz.2
 have hnot:∀ (x:Bool) (w:World),(Op.unary .not (.bool x)).run Tryz.prog w = .ok (.bool (!x)) w:=fun _ _=>rfl
 have hbn:∀ w:World,(binOp BinOp.neq 86 (Value.slice none 0 0) (Value.slice none 0 0)).run Tryz.prog w = .ok (.bool false) w:=fun _=>by kernel_rfl
 have bx:∀ h,((⟨#[x,y,z]⟩:ByteArray)[0]'h)=x:=fun _=>rfl
 have bY:∀ h,((⟨#[x,y,z]⟩:ByteArray)[1]'h)=y:=fun _=>rfl
 have bz:∀ h,((⟨#[x,y,z]⟩:ByteArray)[2]'h)=z:=fun _=>rfl
 have hsz:(ByteArray.mk #[x,y,z]).size=3:=rfl
 have lx:=x.toNat_lt
 have ly:=y.toNat_lt
 have lz:=z.toNat_lt
 clear hx hy hz
 go_enter Tryz.func214,Tryz.ntmps214
 go_wp2
 refine wp_loop_rounds 4 ?_
 rw [rounds_succ]
 go_wp2
 rw [rounds_succ]
 go_wp2
 rw [rounds_succ]
 go_wp2
 rw [rounds_succ]
 go_wp2
 go_ret
 exact ⟨rfl,Kp.refl _ _⟩
theorem y1c (W:World) (k o n:Nat) (cur:Array Value) (B c:Nat) (y:Int) (hk:Blk W k 5 cur) (h0:W.cell? ⟨B,0,none⟩=some (.int .u8 92)) (h1:W.cell? ⟨B,1,none⟩=some (.int .u8 y)) (ho:o+2≤cur.size) (hn:2≤n) (ty:TypeId) (dc:Nat) :
  (Builtin.copy_ #[86,86] ty #[.slice (some ⟨k,o,none⟩) n dc,.slice (some ⟨B,0,none⟩) 2 c]).run Tryz.prog W = .ok (.int .i64 2) (W.setRow k (cur.toList.take o++[Value.int .u8 92,Value.int .u8 y]++cur.toList.drop (o+2)).toArray):=by
 have h:=run_copy_row (P:=Tryz.prog) W 86 86 ty 5 k o n dc ⟨B,0,none⟩ 2 c cur 5 [.int .u8 92,.int .u8 y] (by kernel_rfl) (by kernel_rfl) hk (by simp only [List.length_cons,List.length_nil]; show 2=min 2 n; omega) (fun j v hj=>by
  rw [Addr.add_lit]
  rcases j with _ | _ | j
  ·cases hj; exact h0
  ·cases hj; exact h1
  ·simp at hj) (by simpa using ho) (by intro v hv; simp only [List.mem_cons,List.not_mem_nil,or_false] at hv; rcases hv with rfl | rfl <;> rfl)
 rw [h]; rfl
theorem y8s (w:World) (lo G:Nat) (A:Array Value) (h:BRep w lo G A) :
  Calls Tryz.prog 214 #[.pointer (some ⟨G,0,none⟩),.string ⟨#[92]⟩] w fun e w'=>e = .returned (.string ⟨#[92,92]⟩)∧Kp [] w w':=by
 obtain ⟨H,c256⟩:=h.tr_
 obtain ⟨B,c,q1,q2,q3,q4,q5⟩:=h.s
 have c92:=(h.g.cell 92).trans q1
 have hgl:=h.g.lt
 have hnot:∀ (x:Bool) (w:World),(Op.unary .not (.bool x)).run Tryz.prog w = .ok (.bool (!x)) w:=fun _ _=>rfl
 have hbn:∀ w:World,(binOp BinOp.neq 86 (.slice (some ⟨B,0,none⟩) 2 c) (Value.slice none 0 0)).run Tryz.prog w = .ok (.bool true) w:=fun _=>by kernel_rfl
 have bx:∀ h,((⟨#[92]⟩:ByteArray)[0]'h).toNat=92:=fun _=>rfl
 have hsz:(ByteArray.mk #[92]).size=1:=rfl
 have hmk:(Instr.makeSlice 86 (Value.int IntKind.i64 2) (Value.int IntKind.i64 2)).run Tryz.prog w = .ok (.slice (some ⟨w.heap.size,0,none⟩) 2 2) (w.alloc (.cells #[.int .u8 0,.int .u8 0] 5)):=by kernel_rfl
 have mixed:Tryz.prog.follows Departure.mixedOrders=true:=by kernel_rfl
 have d92:=((h.g.alloc (.cells #[.int .u8 0,.int .u8 0] 5)).cell 92).trans q1
 have hK1:=(Kp.refl [] w).alloc (.cells #[.int .u8 0,.int .u8 0] 5)
 have hN:=Blk.new w 5 #[.int .u8 0,.int .u8 0]
 have hcl:∀ j,(w.alloc (.cells #[.int .u8 0,.int .u8 0] 5)).cell? ⟨B,j,none⟩=w.cell? ⟨B,j,none⟩:=fun j=>World.cell?_alloc_past _ _ _ q4
 generalize hW1:w.alloc (.cells #[.int .u8 0,.int .u8 0] 5)=W1 at *
 have hcp:=y1c W1.drew w.heap.size 0 2 _ B c 92 hN.drew ((hcl 0).trans q2) ((hcl 1).trans q3) (Nat.le_refl _) (Nat.le_refl _)
 have hN2:Blk (W1.drew.setRow w.heap.size #[.int .u8 92,.int .u8 92]) w.heap.size 5 #[.int .u8 92,.int .u8 92]:=setRow_heap _ _ _ _ _ _ hN.drew
 have hK2:Kp [] w (W1.drew.setRow w.heap.size #[.int .u8 92,.int .u8 92]):=⟨hK1.os,hK1.tape,hK1.output,by simpa [World.setRow] using hK1.size,fun k hk hn=>(setRow_other _ _ _ _ (by omega)).trans (hK1.block k hk hn)⟩
 have e2:((#[.int .u8 0,.int .u8 0]:Array Value).toList.take 0++[Value.int .u8 92,Value.int .u8 92]++(#[.int .u8 0,.int .u8 0]:Array Value).toList.drop (0+2)).toArray = #[Value.int .u8 92,Value.int .u8 92]:=rfl
 rw [e2] at hcp
 generalize W1.drew.setRow w.heap.size #[.int .u8 92,.int .u8 92]=W2 at *
 have hcv:=run_convert_bytes_back (P:=Tryz.prog) W2 86 9 5 ⟨w.heap.size,0,none⟩ 2 [92,92] (by kernel_rfl) (by kernel_rfl) (by kernel_rfl) (fun j hj=>by
  rw [Addr.add_lit,hN2.cell]
  rcases j with _ | _ | j
  ·rfl
  ·rfl
  ·simp at hj; omega)
 have hcv:(convert 86 9 (.slice (some ⟨w.heap.size,0,none⟩) 2 2)).run Tryz.prog W2 = .ok (.string ⟨#[92,92]⟩) W2:=hcv
 clear h q1 q2 q3 q4 q5 hcl hN hN2 hK1 e2 hW1
 go_enter Tryz.func214,Tryz.ntmps214
 go_wp2
 refine wp_loop_rounds 2 ?_
 rw [rounds_succ]
 go_wp2
 rw [rounds_succ]
 go_wp2
 refine wp_loop_rounds 2 ?_
 rw [rounds_succ]
 go_wp2
 go_region_law_o (refine step_copy_runI rfl _ _ 86 86 rfl _ _ (by simp [Act.eval,Act.put]) (by simp [Act.eval,Act.put]) (hcp _ _) ?_)
 go_wp2
 rw [rounds_succ]
 go_wp2
 go_ret
 exact ⟨rfl,hK2⟩
set_option maxHeartbeats 40000000 in
theorem y8q (w:World) (lo G:Nat) (A:Array Value) (h:BRep w lo G A) (x z:UInt8) (hx:x≠34∧x≠92) (hz:z≠34∧z≠92) :
  Calls Tryz.prog 214 #[.pointer (some ⟨G,0,none⟩),.string ⟨#[x,34,z]⟩] w fun e w'=>e = .returned (.string ⟨#[x,92,34,z]⟩)∧Kp [] w w':=by
 obtain ⟨H,c256⟩:=h.tr_
 obtain ⟨B,c,q1,q2,q3,q4,q5⟩:=h.q
 have c34:=(h.g.cell 34).trans q1
 have cx:=h.none_ x hx.1 hx.2
 have cz:=h.none_ z hz.1 hz.2
 have hgl:=h.g.lt
 have hnot:∀ (x:Bool) (w:World),(Op.unary .not (.bool x)).run Tryz.prog w = .ok (.bool (!x)) w:=fun _ _=>rfl
 have hbt:∀ w:World,(binOp BinOp.neq 86 (.slice (some ⟨B,0,none⟩) 2 c) (Value.slice none 0 0)).run Tryz.prog w = .ok (.bool true) w:=fun _=>by kernel_rfl
 have hbn:∀ w:World,(binOp BinOp.neq 86 (Value.slice none 0 0) (Value.slice none 0 0)).run Tryz.prog w = .ok (.bool false) w:=fun _=>by kernel_rfl
 have bx:∀ h,((⟨#[x,34,z]⟩:ByteArray)[0]'h)=x:=fun _=>rfl
 have bq:∀ h,((⟨#[x,34,z]⟩:ByteArray)[1]'h).toNat=34:=fun _=>rfl
 have bz:∀ h,((⟨#[x,34,z]⟩:ByteArray)[2]'h)=z:=fun _=>rfl
 have hsz:(ByteArray.mk #[x,34,z]).size=3:=rfl
 have lx:=x.toNat_lt
 have lz:=z.toNat_lt
 have hmk:(Instr.makeSlice 86 (Value.int IntKind.i64 4) (Value.int IntKind.i64 4)).run Tryz.prog w = .ok (.slice (some ⟨w.heap.size,0,none⟩) 4 4) (w.alloc (.cells #[.int .u8 0,.int .u8 0,.int .u8 0,.int .u8 0] 5)):=by kernel_rfl
 have mixed:Tryz.prog.follows Departure.mixedOrders=true:=by kernel_rfl
 -- a new row
 have hG1:=h.g.alloc (.cells #[.int .u8 0,.int .u8 0,.int .u8 0,.int .u8 0] 5)
 have hK1:=(Kp.refl [] w).alloc (.cells #[.int .u8 0,.int .u8 0,.int .u8 0,.int .u8 0] 5)
 have hN1:=Blk.new w 5 #[.int .u8 0,.int .u8 0,.int .u8 0,.int .u8 0]
 have hB1:∀ j,(w.alloc (.cells #[.int .u8 0,.int .u8 0,.int .u8 0,.int .u8 0] 5)).cell? ⟨B,j,none⟩=w.cell? ⟨B,j,none⟩:=fun j=>World.cell?_alloc_past _ _ _ q4
 generalize w.alloc (.cells #[.int .u8 0,.int .u8 0,.int .u8 0,.int .u8 0] 5)=W1 at *
 have dx:W1.cell? ⟨G,x.toNat,none⟩=some (.slice none 0 0):=(hG1.cell _).trans ((h.g.cell _).symm.trans cx)
 have n0:=hN1.cell 0
 have f0:=hN1.frozen 0
 -- the first byte
 have hG2:=hG1.far (p:=⟨w.heap.size,0,none⟩) (by show G≠w.heap.size; omega) (.int .u8 (x.toNat:Int))
 have hK2:=hK1.set_ (p:=⟨w.heap.size,0,none⟩) (.inr (Nat.le_refl _)) (.int .u8 (x.toNat:Int))
 have hN2:=hN1.set_ 0 (.int .u8 (x.toNat:Int))
 have hB2:∀ j,(W1.setCell ⟨w.heap.size,0,none⟩ (.int .u8 (x.toNat:Int))).cell? ⟨B,j,none⟩=w.cell? ⟨B,j,none⟩:=fun j=>(World.cell?_setCell_other _ _ _ _ (fun e=>by have:=congrArg Addr.block e; simp at this; omega)).trans (hB1 j)
 obtain ⟨W2,hW2⟩:∃ W2,W1.setCell ⟨w.heap.size,0,none⟩ (.int .u8 (x.toNat:Int))=W2:=⟨_,rfl⟩
 rw [hW2] at hG2 hK2 hN2
 simp only [hW2] at hB2
 have d34:W2.cell? ⟨G,34,none⟩=some (.slice (some ⟨B,0,none⟩) 2 c):=(hG2.cell _).trans q1
 -- the replacement
 have hcp:=y1c W2.drew w.heap.size 1 3 _ B c 34 hN2.drew ((hB2 0).trans q2) ((hB2 1).trans q3) (by show 3≤4; omega) (by omega)
 have e2:(((#[.int .u8 0,.int .u8 0,.int .u8 0,.int .u8 0]:Array Value).setIfInBounds 0 (.int .u8 (x.toNat:Int))).toList.take 1++[Value.int .u8 92,Value.int .u8 34]++((#[.int .u8 0,.int .u8 0,.int .u8 0,.int .u8 0]:Array Value).setIfInBounds 0 (.int .u8 (x.toNat:Int))).toList.drop (1+2)).toArray = #[Value.int .u8 (x.toNat:Int),Value.int .u8 92,Value.int .u8 34,Value.int .u8 0]:=rfl
 rw [e2] at hcp
 have hN3:Blk (W2.drew.setRow w.heap.size #[Value.int .u8 (x.toNat:Int),Value.int .u8 92,Value.int .u8 34,Value.int .u8 0]) w.heap.size 5 _:=setRow_heap _ _ _ _ _ _ hN2.drew
 have hG3:Blk (W2.drew.setRow w.heap.size #[Value.int .u8 (x.toNat:Int),Value.int .u8 92,Value.int .u8 34,Value.int .u8 0]) G _ _:=(setRow_other _ _ _ _ (by omega)).trans hG2
 have hK3:Kp [] w (W2.drew.setRow w.heap.size #[Value.int .u8 (x.toNat:Int),Value.int .u8 92,Value.int .u8 34,Value.int .u8 0]):=⟨hK2.os,hK2.tape,hK2.output,by simpa [World.setRow] using hK2.size,fun k hk hn=>(setRow_other _ _ _ _ (by omega)).trans (hK2.block k hk hn)⟩
 generalize W2.drew.setRow w.heap.size #[Value.int .u8 (x.toNat:Int),Value.int .u8 92,Value.int .u8 34,Value.int .u8 0]=W3 at *
 have dz:W3.cell? ⟨G,z.toNat,none⟩=some (.slice none 0 0):=(hG3.cell _).trans ((h.g.cell _).symm.trans cz)
 have n3:=hN3.cell 3
 have f3:=hN3.frozen 3
 -- the last byte
 have hK4:=hK3.set_ (p:=⟨w.heap.size,3,none⟩) (.inr (Nat.le_refl _)) (.int .u8 (z.toNat:Int))
 have hN4:=hN3.set_ 3 (.int .u8 (z.toNat:Int))
 obtain ⟨W4,hW4⟩:∃ W4,W3.setCell ⟨w.heap.size,3,none⟩ (.int .u8 (z.toNat:Int))=W4:=⟨_,rfl⟩
 rw [hW4] at hK4 hN4
 have hcv:=run_convert_bytes_back (P:=Tryz.prog) W4 86 9 5 ⟨w.heap.size,0,none⟩ 4 [x,92,34,z] (by kernel_rfl) (by kernel_rfl) (by kernel_rfl) (fun j hj=>by
  rw [Addr.add_lit,hN4.cell]
  rcases j with _ | _ | _ | _ | j
  ·rfl
  ·rfl
  ·rfl
  ·rfl
  ·simp at hj; omega)
 have hcv:(convert 86 9 (.slice (some ⟨w.heap.size,0,none⟩) 4 4)).run Tryz.prog W4 = .ok (.string ⟨#[x,92,34,z]⟩) W4:=hcv
 have n0:W1.cell? ⟨w.heap.size,0,none⟩=some (.int .u8 0):=n0
 have n3:W3.cell? ⟨w.heap.size,3,none⟩=some (.int .u8 0):=n3
 clear h q1 q2 q3 q4 q5 hB1 hB2 hN1 hN2 hN3 hN4 hK1 hK2 hK3 hG1 hG2 hG3 e2 hx hz
 go_enter Tryz.func214,Tryz.ntmps214
 go_wp2
 refine wp_loop_rounds 4 ?_
 rw [rounds_succ]
 go_wp2
 rw [rounds_succ]
 go_wp2
 rw [rounds_succ]
 go_wp2
 rw [rounds_succ]
 go_wp2
 refine wp_loop_rounds 4 ?_
 rw [rounds_succ]
 go_wp2
 rw [rounds_succ]
 go_wp2
 go_region_law_o (refine step_copy_runI rfl _ _ 86 86 rfl _ _ (by simp [Act.eval,Act.put]) (by simp [Act.eval,Act.put]) (hcp _ _) ?_)
 go_wp2
 rw [rounds_succ]
 go_wp2
 rw [rounds_succ]
 go_wp2
 go_ret
 exact ⟨rfl,hK4⟩
end Go.Proofs.YtpjjkhcojjcdpaaGreatDoor
