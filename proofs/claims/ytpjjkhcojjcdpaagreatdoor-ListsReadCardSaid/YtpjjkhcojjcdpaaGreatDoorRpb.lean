/- strings.Replacer: what is built. -/
import Derived.Test.YtpjjkhcojjcdpaaGreatDoorRpa
import Derived.Test.YtpjjkhcojjcdpaaGreatDoorMa
import Derived.Test.YtpjjkhcojjcdpaaGreatDoorTy
import Derived.WalkKit
import Derived.Lib.Walk
import Derived.Lib.AppendZeros
namespace Go.Proofs.YtpjjkhcojjcdpaaGreatDoor
open Go.RowKit Go.Lib
set_option linter.unusedVariables false
set_option maxRecDepth 100000
set_option maxHeartbeats 8000000
noncomputable def brA (h n:Nat):Array Value:=(Array.replicate 256 (.slice none 0 0)).push (.slice (some ⟨h,0,none⟩) n 2)
noncomputable def bldW (w:World):World:=((w.alloc (.cells #[.string ⟨#[]⟩,.string ⟨#[]⟩] 9)).alloc (.cells Tryz.zeroCells172 172)).setRow (w.heap.size+1) (brA w.heap.size 0)
theorem y1j:Tryz.zeroCells172=(Array.replicate 256 (.slice none 0 0)).push (.slice none 0 0):=by kernel_rfl
theorem y8x (w:World):(storeCells ⟨w.heap.size+1,0,none⟩ (Tryz.zeroCells172.toList.set 256 (.slice (some ⟨w.heap.size,0,none⟩) 0 2))).run Tryz.prog ((w.alloc (.cells #[.string ⟨#[]⟩,.string ⟨#[]⟩] 9)).alloc (.cells Tryz.zeroCells172 172)) = .ok () (bldW w):=by
 have hg1:((w.alloc (.cells #[.string ⟨#[]⟩,.string ⟨#[]⟩] 9)).alloc (.cells Tryz.zeroCells172 172)).heap[w.heap.size+1]?=some (.cells Tryz.zeroCells172 172 (0,0)):=by
  simp only [World.alloc]
  rw [Array.getElem?_push,if_pos (by rw [Array.size_push])]
 have e1:Tryz.zeroCells172.toList.set 256 (.slice (some ⟨w.heap.size,0,none⟩) 0 2)=(brA w.heap.size 0).toList:=by
  rw [y1j]; unfold brA
  rw [Array.toList_push,Array.toList_push,Array.toList_replicate]
  rw [List.set_append_right _ _ (by rw [List.length_replicate]; exact Nat.le_refl _)]
  simp only [List.length_replicate,Nat.sub_self,List.set_cons_zero]
 have hsz:(brA w.heap.size 0).toList.length=Tryz.zeroCells172.size:=by rw [y1j]; unfold brA; rw [Array.length_toList,Array.size_push,Array.size_push]
 have hst:=run_storeCells_at (P:=Tryz.prog) (w.heap.size+1) 0 172 (brA w.heap.size 0).toList 0 Tryz.zeroCells172 _ hg1 (by rw [hsz]; omega) (by
  intro v hv
  unfold brA at hv
  rw [Array.toList_push,List.mem_append,Array.toList_replicate] at hv
  rcases hv with h | h
  ·rw [List.eq_of_mem_replicate h]; rfl
  ·rw [List.mem_singleton.1 h]; rfl)
 rw [e1,hst]
 unfold bldW
 rw [Nat.zero_add,List.take_zero,List.nil_append,hsz,List.drop_eq_nil_of_le (by rw [Array.length_toList]; omega),List.append_nil,Array.toArray_toList]
theorem y8y (w:World):Kp [] w (bldW w):=by
 have h:=(((Kp.refl [] w).alloc (.cells #[.string ⟨#[]⟩,.string ⟨#[]⟩] 9)).alloc (.cells Tryz.zeroCells172 172))
 refine ⟨h.os,h.tape,h.output,by simpa [bldW,World.setRow] using h.size,fun k hk hn => ?_⟩
 exact (setRow_other _ _ _ _ (by omega)).trans (h.block k hk hn)
theorem y80 (w:World):Blk (bldW w) (w.heap.size+1) 172 (brA w.heap.size 0):=by
 refine setRow_heap _ _ Tryz.zeroCells172 _ _ _ ?_
 simp only [World.alloc]
 rw [Array.getElem?_push,if_pos (by rw [Array.size_push])]
theorem y8z (w:World):Blk (bldW w) w.heap.size 9 #[.string ⟨#[]⟩,.string ⟨#[]⟩]:=
 (setRow_other _ _ _ _ (by omega)).trans ((Blk.new w _ _).alloc _)
theorem y1d (W:World) (x:UInt8):(convert 86 9 (.slice (some ⟨W.heap.size,0,none⟩) 1 1)).run Tryz.prog (W.alloc (.cells #[.int .u8 (x.toNat:Int)] 5)) = .ok (.string ⟨#[x]⟩) (W.alloc (.cells #[.int .u8 (x.toNat:Int)] 5)):=by
 refine run_convert_bytes_back (P:=Tryz.prog) _ _ _ 5 ⟨W.heap.size,0,none⟩ 1 [x] (by kernel_rfl) (by kernel_rfl) (by kernel_rfl) fun j hj => ?_
 have:j=0:=by simpa using hj
 subst this
 rw [Addr.add_lit]
 exact (Blk.new W 5 #[.int .u8 (x.toNat:Int)]).cell 0
noncomputable def apW (W:World) (H n:Nat) (s:ByteArray):World:=(W.alloc (.cells #[.string s] 9)).setCell ⟨H,n,none⟩ (.string s)
theorem y1n (W:World) (m:Nat) (hm:m=W.heap.size) (H n:Nat) (T:Array Value) (s:ByteArray) (hH:Blk W H 9 T) (hT:T.size=2) (hn:n < 2) (ty:TypeId) :
  (Builtin.append_ #[63,63] ty #[.slice (some ⟨H,0,none⟩) n 2,.slice (some ⟨m,0,none⟩) 1 1]).run Tryz.prog (W.alloc (.cells #[.string s] 9)) = .ok (.slice (some ⟨H,0,none⟩) (n+1) 2) (apW W H n s):=by
 subst hm
 obtain ⟨i,z,e1,e2,e3,e4,e5,e6,e7⟩:=(wb:Elem Tryz.prog 63 9 1 _)
 have hb:=hH.alloc (.cells #[.string s] 9)
 have h:=run_append_room_cells (P:=Tryz.prog) (w:=W.alloc (.cells #[.string s] 9)) 63 ty 9 i e1 e2 H 0 n 2 ⟨W.heap.size,0,none⟩ 1 1 [.string s] (by rw [e4]; rfl) (fun j u hj=>by
  have:j=0:=by
   rcases j with _ | j
   ·rfl
   ·simp at hj
  subst this
  cases hj
  rw [Addr.add_lit]
  exact (Blk.new W 9 #[.string s]).cell 0) (by intro u hu; rw [List.mem_singleton.1 hu]; rfl) (by omega) (fun j hj=>by
   have:j=0:=by simpa using hj
   subst this
   rw [hb.cell,e4,Array.getElem?_eq_getElem (by omega)]; rfl) (fun j hj=>hb.frozen _)
 rw [h,e4]
 unfold apW
 simp [World.setCells]
structure Two (w:World) (v:Value) (y:Int):Prop where
 ex:∃ (B c:Nat),v = .slice (some ⟨B,0,none⟩) 2 c∧w.cell? ⟨B,0,none⟩=some (.int .u8 92)∧w.cell? ⟨B,1,none⟩=some (.int .u8 y)∧B < w.heap.size
structure RdF (w0 W:World) (G H n o y:Nat) (A:Array Value) (s:ByteArray) (x:Int) (t:ByteArray) (B c:Nat) (V3 V4:World):Prop where
 c1:(apW (W.alloc (.cells #[.int .u8 x] 5)) H n s).cell? ⟨G,256,none⟩=some (.slice (some ⟨H,0,none⟩) n 2)
 f1:(apW (W.alloc (.cells #[.int .u8 x] 5)) H n s).frozen? ⟨G,256,none⟩=false
 cv:(convert 9 86 (.string t)).run Tryz.prog ((apW (W.alloc (.cells #[.int .u8 x] 5)) H n s).setCell ⟨G,256,none⟩ (.slice (some ⟨H,0,none⟩) (n+1) 2)) = .ok (.slice (some ⟨B,0,none⟩) 2 c) V3
 c2:V3.cell? ⟨G,o,none⟩=some (.slice none 0 0)
 f2:V3.frozen? ⟨G,o,none⟩=false
 e4:V3.setCell ⟨G,o,none⟩ (.slice (some ⟨B,0,none⟩) 2 c)=V4
 g4:Blk V4 G 172 ((A.setIfInBounds 256 (.slice (some ⟨H,0,none⟩) (n+1) 2)).setIfInBounds o (.slice (some ⟨B,0,none⟩) 2 c))
 h4:∃ T:Array Value,Blk V4 H 9 T∧T.size=2
 b0:V4.cell? ⟨B,0,none⟩=some (.int .u8 92)
 b1:V4.cell? ⟨B,1,none⟩=some (.int .u8 y)
 bl:W.heap.size≤B∧B < V4.heap.size
 kp:Kp [G,H] W V4
theorem z9g (w0 W:World) (G H n o y:Nat) (A T:Array Value) (s:ByteArray) (x:Int) (z:UInt8) (hz:z.toNat=y) (hG:Blk W G 172 A) (hA:A.size=257) (htr:A[256]?=some (.slice (some ⟨H,0,none⟩) n 2)) (ho:A[o]?=some (.slice none 0 0)) (ho2:o < 256) (hH:Blk W H 9 T) (hT:T.size=2) (hn:n < 2) :
  ∃ B c V3 V4,RdF w0 W G H n o y A s x ⟨#[92,z]⟩ B c V3 V4:=by
 have hne:G≠H:=hG.ne_ hH (by decide)
 have hG1:Blk (apW (W.alloc (.cells #[.int .u8 x] 5)) H n s) G 172 A:=((hG.alloc _).alloc _).far (p:=⟨H,n,none⟩) hne _
 have hH1:Blk (apW (W.alloc (.cells #[.int .u8 x] 5)) H n s) H 9 (T.setIfInBounds n (.string s)):=((hH.alloc _).alloc _).set_ n _
 have hk1:Kp [G,H] W (apW (W.alloc (.cells #[.int .u8 x] 5)) H n s):=(((Kp.refl [G,H] W).alloc _).alloc _).set_ (p:=⟨H,n,none⟩) (.inl (by simp)) _
 have hl1:=hk1.size
 have c1:=hG1.cell 256
 have f1:=hG1.frozen 256
 rw [htr] at c1
 generalize hV1:apW (W.alloc (.cells #[.int .u8 x] 5)) H n s=V1 at *
 have hG2:=hG1.set_ 256 (.slice (some ⟨H,0,none⟩) (n+1) 2)
 have hH2:Blk (V1.setCell ⟨G,256,none⟩ (.slice (some ⟨H,0,none⟩) (n+1) 2)) H 9 (T.setIfInBounds n (.string s)):=hH1.far (p:=⟨G,256,none⟩) (Ne.symm hne) _
 have hk2:Kp [G,H] W (V1.setCell ⟨G,256,none⟩ (.slice (some ⟨H,0,none⟩) (n+1) 2)):=hk1.set_ (p:=⟨G,256,none⟩) (.inl (by simp)) _
 have hl2:=hk2.size
 generalize hV2:V1.setCell ⟨G,256,none⟩ (.slice (some ⟨H,0,none⟩) (n+1) 2)=V2 at *
 have hcv:=run_bytes_of_string (P:=Tryz.prog) V2 9 86 5 ⟨#[92,z]⟩ (by kernel_rfl) (by kernel_rfl) (by kernel_rfl)
 have hB:V2.drew.heap.size=V2.heap.size:=rfl
 generalize hr:bytesRow ⟨#[92,z]⟩ (grownCap V2 (ByteArray.mk #[92,z]).size 0 5)=row at hcv
 have r0:row[0]?=some (.int .u8 92):=by rw [← hr]; exact bytesRow_at _ _ 0 (by show 0 < 2; omega)
 have r1:row[1]?=some (.int .u8 y):=by
  rw [← hr]
  have:=bytesRow_at ⟨#[92,z]⟩ (grownCap V2 (ByteArray.mk #[92,z]).size 0 5) 1 (by show 1 < 2; omega)
  rw [this]
  show some (Value.int .u8 (z.toNat:Int))=_
  rw [hz]
 have hnew:(V2.drew.alloc (.cells row 5 (row.size,row.size+1))).heap[V2.heap.size]?=some (.cells row 5 (row.size,row.size+1)):=heap_alloc_new V2.drew _
 have hG3:Blk (V2.drew.alloc (.cells row 5 (row.size,row.size+1))) G _ _:=hG2.drew.alloc _
 have hH3:Blk (V2.drew.alloc (.cells row 5 (row.size,row.size+1))) H _ _:=hH2.drew.alloc _
 have hk3:Kp [G,H] W (V2.drew.alloc (.cells row 5 (row.size,row.size+1))):=hk2.drew.alloc _
 have hls:(V2.drew.alloc (.cells row 5 (row.size,row.size+1))).heap.size=V2.heap.size+1:=Array.size_push _
 have hlt:G < V2.heap.size:=hG2.lt
 generalize hV3:V2.drew.alloc (.cells row 5 (row.size,row.size+1))=V3 at *
 have hc2:(A.setIfInBounds 256 (.slice (some ⟨H,0,none⟩) (n+1) 2))[o]?=some (.slice none 0 0):=by
  rw [Array.getElem?_setIfInBounds_ne (by omega)]; exact ho
 refine ⟨V2.heap.size,grownCap V2 (ByteArray.mk #[92,z]).size 0 5,V3,_,hV1 ▸ c1,hV1 ▸ f1,by rw [hV1,hV2]; exact hcv,by rw [hG3.cell]; exact hc2,hG3.frozen _,rfl,hG3.set_ o _,⟨_,hH3.far (p:=⟨G,o,none⟩) (Ne.symm hne) _,by rw [Array.size_setIfInBounds]; exact hT⟩,?_,?_,⟨hl2,by have:=(hk3.set_ (p:=⟨G,o,none⟩) (.inl (by simp)) (.slice (some ⟨V2.heap.size,0,none⟩) 2 (grownCap V2 (ByteArray.mk #[92,z]).size 0 5))); have h5:(V3.setCell ⟨G,o,none⟩ (.slice (some ⟨V2.heap.size,0,none⟩) 2 (grownCap V2 (ByteArray.mk #[92,z]).size 0 5))).heap.size=V3.heap.size:=World.size_setCell _ _ _; omega⟩,hk3.set_ (p:=⟨G,o,none⟩) (.inl (by simp)) _⟩
 ·rw [World.cell?_setCell_other _ _ _ _ (fun e=>by have:=congrArg Addr.block e; simp at this; omega),cell_of_row V3 _ _ _ _ _ hnew]; exact r0
 ·rw [World.cell?_setCell_other _ _ _ _ (fun e=>by have:=congrArg Addr.block e; simp at this; omega),cell_of_row V3 _ _ _ _ _ hnew]; exact r1
structure BRep (w:World) (lo G:Nat) (A:Array Value):Prop where
 g:Blk w G 172 A
 sz:A.size=257
 tr:∃ H,A[256]?=some (.slice (some ⟨H,0,none⟩) 2 2)
 q:∃ B c,A[34]?=some (.slice (some ⟨B,0,none⟩) 2 c)∧w.cell? ⟨B,0,none⟩=some (.int .u8 92)∧w.cell? ⟨B,1,none⟩=some (.int .u8 34)∧B < w.heap.size∧lo≤B
 s:∃ B c,A[92]?=some (.slice (some ⟨B,0,none⟩) 2 c)∧w.cell? ⟨B,0,none⟩=some (.int .u8 92)∧w.cell? ⟨B,1,none⟩=some (.int .u8 92)∧B < w.heap.size∧lo≤B
 no:∀ j,j < 256→j≠34→j≠92→A[j]?=some (.slice none 0 0)
theorem z2e (h n j:Nat) (hj:j < 256):(brA h n)[j]?=some (.slice none 0 0):=by
 unfold brA
 rw [Array.getElem?_push,if_neg (by rw [Array.size_replicate]; omega),Array.getElem?_replicate,if_pos hj]
theorem xq (h n:Nat):(brA h n).size=257:=by unfold brA; rw [Array.size_push,Array.size_replicate]
theorem y1i (h n:Nat):(brA h n)[256]?=some (.slice (some ⟨h,0,none⟩) n 2):=by
 unfold brA
 rw [Array.getElem?_push,if_pos (by rw [Array.size_replicate])]
set_option maxHeartbeats 40000000 in
theorem y8w (b q:Nat) (c:Nat) (w:World)
  (hbl:b < w.heap.size) (hql:q < w.heap.size) (h4:w.cell? ⟨b,4,none⟩=some (.slice (some ⟨q,0,none⟩) 4 c))
  (q0:w.cell? ⟨q,0,none⟩=some (.string ⟨#[92]⟩)) (q1:w.cell? ⟨q,1,none⟩=some (.string ⟨#[92,92]⟩)) (q2:w.cell? ⟨q,2,none⟩=some (.string ⟨#[34]⟩)) (q3:w.cell? ⟨q,3,none⟩=some (.string ⟨#[92,34]⟩)) :
  Calls Tryz.prog 116 #[.pointer (some ⟨b,0,none⟩)] w fun e w'=>∃ G A,e = .returned (.iface 173 (.pointer (some ⟨G,0,none⟩)))∧Kp [] w w'∧w.heap.size≤G∧BRep w' w.heap.size G A:=by
 obtain ⟨G,hGn⟩:∃ G,G=w.heap.size+1:=⟨_,rfl⟩
 obtain ⟨H,hHn⟩:∃ H,H=w.heap.size:=⟨_,rfl⟩
 have k2:=y8y w
 have hG2:=y80 w
 have hH2:=y8z w
 have hst:=y8x w
 have hmk:∀ w:World,(Instr.makeSlice 63 (Value.int IntKind.i64 0) (Value.int IntKind.i64 2)).run Tryz.prog w = .ok (.slice (some ⟨w.heap.size,0,none⟩) 0 2) (w.alloc (.cells #[.string ⟨#[]⟩,.string ⟨#[]⟩] 9)):=fun w=>by kernel_rfl
 generalize bldW w=W2 at *
 rw [← hGn] at hG2 hst
 rw [← hHn] at hH2
 obtain ⟨B1,c1,V1,W3,r1⟩:=z9g w W2 G H 0 34 34 (brA w.heap.size 0) #[.string ⟨#[]⟩,.string ⟨#[]⟩] ⟨#[34]⟩ 34 34 rfl hG2 (xq _ _) (by rw [hHn]; exact y1i _ _) (z2e _ _ _ (by omega)) (by omega) hH2 rfl (by omega)
 obtain ⟨T3,hH3,hT3⟩:=r1.h4
 have hG3:=r1.g4
 have hneG:G≠H:=by omega
 obtain ⟨B2,c2,V2,W4,r2⟩:=z9g w W3 G H 1 92 92 _ T3 ⟨#[92]⟩ 92 92 rfl hG3 (by rw [Array.size_setIfInBounds,Array.size_setIfInBounds]; exact xq _ _)
  (by rw [Array.getElem?_setIfInBounds_ne (by omega),Array.getElem?_setIfInBounds_self_of_lt (by rw [xq]; omega)])
  (by rw [Array.getElem?_setIfInBounds_ne (by omega),Array.getElem?_setIfInBounds_ne (by omega)]; exact z2e _ _ _ (by omega)) (by omega) hH3 hT3 (by omega)
 have hG4:=r2.g4
 have k3:Kp [] w W3:=k2.trans r1.kp fun g hg => .inr (by simp only [List.mem_cons,List.not_mem_nil,or_false] at hg; omega)
 have k4:Kp [] w W4:=k3.trans r2.kp fun g hg => .inr (by simp only [List.mem_cons,List.not_mem_nil,or_false] at hg; omega)
 have hl2:=hG2.lt
 have hl3:=hG3.lt
 have hl4:=hG4.lt
 have hB1:=r1.bl
 have hB2:=r2.bl
 have hlH:=hH3.lt
 have hrep:BRep W4 w.heap.size G _:=⟨hG4,by rw [Array.size_setIfInBounds,Array.size_setIfInBounds,Array.size_setIfInBounds,Array.size_setIfInBounds]; exact xq _ _,
  ⟨H,by rw [Array.getElem?_setIfInBounds_ne (by omega),Array.getElem?_setIfInBounds_self_of_lt (by rw [Array.size_setIfInBounds,Array.size_setIfInBounds,xq]; omega)]⟩,
  ⟨B1,c1,by rw [Array.getElem?_setIfInBounds_ne (by omega),Array.getElem?_setIfInBounds_ne (by omega),Array.getElem?_setIfInBounds_self_of_lt (by rw [Array.size_setIfInBounds,xq]; omega)],
   (World.cell?_of_block (w:=W3) (a:=⟨B1,0,none⟩) (r2.kp.block B1 hB1.2 (by simp; omega))).trans r1.b0,(World.cell?_of_block (w:=W3) (a:=⟨B1,1,none⟩) (r2.kp.block B1 hB1.2 (by simp; omega))).trans r1.b1,Nat.lt_of_lt_of_le hB1.2 r2.kp.size,Nat.le_trans k2.size hB1.1⟩,
  ⟨B2,c2,by rw [Array.getElem?_setIfInBounds_self_of_lt (by rw [Array.size_setIfInBounds,Array.size_setIfInBounds,Array.size_setIfInBounds,xq]; omega)],r2.b0,r2.b1,hB2.2,Nat.le_trans k3.size hB2.1⟩,
  fun j h1 h2 h3=>by rw [Array.getElem?_setIfInBounds_ne (by omega),Array.getElem?_setIfInBounds_ne (by omega),Array.getElem?_setIfInBounds_ne (by omega),Array.getElem?_setIfInBounds_ne (by omega)]; exact z2e _ _ _ h1⟩
 have hfin:∃ G' A,(Ending.returned (.iface 173 (.pointer (some ⟨G,0,none⟩))):Ending) = .returned (.iface 173 (.pointer (some ⟨G',0,none⟩)))∧Kp [] w W4∧w.heap.size≤G'∧BRep W4 w.heap.size G' A:=⟨G,_,rfl,k4,by omega,hrep⟩
 have p2:W2.cell? ⟨q,2,none⟩=some (.string ⟨#[34]⟩):=(World.cell?_of_block (w:=w) (a:=⟨q,2,none⟩) (k2.block q hql (by simp))).trans q2
 have p3:W2.cell? ⟨q,3,none⟩=some (.string ⟨#[92,34]⟩):=(World.cell?_of_block (w:=w) (a:=⟨q,3,none⟩) (k2.block q hql (by simp))).trans q3
 have p34:W2.cell? ⟨G,34,none⟩=some (.slice none 0 0):=(hG2.cell 34).trans (z2e _ _ _ (by omega))
 have p256:W2.cell? ⟨G,256,none⟩=some (.slice (some ⟨H,0,none⟩) 0 2):=(hG2.cell 256).trans (by rw [hHn]; exact y1i _ _)
 have t0:W3.cell? ⟨q,0,none⟩=some (.string ⟨#[92]⟩):=(World.cell?_of_block (w:=w) (a:=⟨q,0,none⟩) (k3.block q hql (by simp))).trans q0
 have t1:W3.cell? ⟨q,1,none⟩=some (.string ⟨#[92,92]⟩):=(World.cell?_of_block (w:=w) (a:=⟨q,1,none⟩) (k3.block q hql (by simp))).trans q1
 have t92:W3.cell? ⟨G,92,none⟩=some (.slice none 0 0):=(hG3.cell 92).trans (by rw [Array.getElem?_setIfInBounds_ne (by omega),Array.getElem?_setIfInBounds_ne (by omega)]; exact z2e _ _ _ (by omega))
 have t256:W3.cell? ⟨G,256,none⟩=some (.slice (some ⟨H,0,none⟩) 1 2):=(hG3.cell 256).trans (by rw [Array.getElem?_setIfInBounds_ne (by omega),Array.getElem?_setIfInBounds_self_of_lt (by rw [xq]; omega)])
 have cv1:(convert 86 9 (.slice (some ⟨W2.heap.size,0,none⟩) 1 1)).run Tryz.prog (W2.alloc (.cells #[.int .u8 34] 5)) = .ok (.string ⟨#[34]⟩) (W2.alloc (.cells #[.int .u8 34] 5)):=y1d W2 34
 have ap1:=y1n (W2.alloc (.cells #[.int .u8 34] 5)) (W2.heap.size+1) (Array.size_push _).symm H 0 _ ⟨#[34]⟩ (hH2.alloc _) rfl (by omega)
 have cv2:(convert 86 9 (.slice (some ⟨W3.heap.size,0,none⟩) 1 1)).run Tryz.prog (W3.alloc (.cells #[.int .u8 92] 5)) = .ok (.string ⟨#[92]⟩) (W3.alloc (.cells #[.int .u8 92] 5)):=y1d W3 92
 have ap2:=y1n (W3.alloc (.cells #[.int .u8 92] 5)) (W3.heap.size+1) (Array.size_push _).symm H 1 _ ⟨#[92]⟩ (hH3.alloc _) hT3 (by omega)
 obtain ⟨x1,x2,x3,x4,x5,x6,-,-,-,-,-,-⟩:=r1
 obtain ⟨y1,y2,y3,y4,y5,y6,-,-,-,-,-,-⟩:=r2
 have b34:∀ h,((⟨#[34]⟩:ByteArray)[0]'h).toNat=34:=fun _=>rfl
 have b92:∀ h,((⟨#[92]⟩:ByteArray)[0]'h).toNat=92:=fun _=>rfl
 have hbe:∀ w:World,(binOp BinOp.eql 86 (Value.slice none 0 0) (Value.slice none 0 0)).run Tryz.prog w = .ok (.bool true) w:=fun _=>by kernel_rfl
 clear hrep hB1 hB2 hlH hl2 hl3 hl4 k2 k3 k4 hG2 hG3 hG4 hH2 hH3 hT3 hneG
 subst hGn hHn
 have hmk:=hmk w
 go_enter Tryz.func116,Tryz.ntmps116
 go_wp2
 refine wp_loop_rounds 3 ?_
 rw [rounds_succ]
 go_wp2
 rw [rounds_succ]
 go_wp2
 rw [rounds_succ]
 go_wp2
 refine wp_loop_rounds 3 ?_
 rw [rounds_succ]
 go_wp2_with (at_builtin; refine Lib.wpList_append_run _ rfl _ _ _ _ rfl _ _ rfl rfl _ _ (ap1 _) ?_)
 rw [rounds_succ]
 go_wp2_with (at_builtin; refine Lib.wpList_append_run _ rfl _ _ _ _ rfl _ _ rfl rfl _ _ (ap2 _) ?_)
 rw [rounds_succ]
 go_wp2
 all_goals trace_state
 go_ret
 exact hfin
end Go.Proofs.YtpjjkhcojjcdpaaGreatDoor
