/- strings.NewReplacer and Replace at quotes and backslashes: the walks. -/
import Derived.Test.YtpjjkhcojjcdpaaGreatDoorRpc
import Derived.Test.YtpjjkhcojjcdpaaGreatDoorMc
namespace Go.Proofs.YtpjjkhcojjcdpaaGreatDoor
open Go.RowKit Go.Lib
set_option linter.unusedVariables false
set_option linter.unusedSimpArgs false
set_option maxRecDepth 100000
set_option maxHeartbeats 8000000
theorem y8t (w:World) (lo G:Nat) (A:Array Value) (h:BRep w lo G A) (s r:List UInt8) (hs:Zv s=some r) :
  Calls Tryz.prog 214 #[.pointer (some ⟨G,0,none⟩),.string ⟨s.toArray⟩] w fun e w'=>e = .returned (.string ⟨r.toArray⟩)∧Kp [] w w':=by
 rcases s with _ | ⟨x,_ | ⟨y,_ | ⟨z,_ | ⟨u,s⟩⟩⟩⟩
 ·cases hs; exact y8r w lo G A h
 ·simp only [Zv] at hs
  split at hs
  ·rename_i hx; subst hx; cases hs; exact y8s w lo G A h
  ·cases hs
 ·cases hs
 ·simp only [Zv] at hs
  split at hs
  ·rename_i hxz
   split at hs
   ·rename_i hy; subst hy; cases hs; exact y8q w lo G A h x z hxz.1 hxz.2
   ·rename_i hy
    split at hs
    ·rename_i hy2; cases hs; exact y8p w lo G A h x y z hxz.1 ⟨hy,hy2⟩ hxz.2
    ·cases hs
  ·cases hs
 ·cases hs
theorem y4h (b q c : Nat) (x2 : Value) (w : World) (hb : Blk w b 125 #[.int .u32 0, .int .i32 0, x2, .nilIface, .slice (some ⟨q, 0, none⟩) 4 c]) (hql : q < w.heap.size) (hqb : q ≠ b)
    (q0 : w.cell? ⟨q, 0, none⟩ = some (.string ⟨#[92]⟩)) (q1 : w.cell? ⟨q, 1, none⟩ = some (.string ⟨#[92, 92]⟩)) (q2 : w.cell? ⟨q, 2, none⟩ = some (.string ⟨#[34]⟩)) (q3 : w.cell? ⟨q, 3, none⟩ = some (.string ⟨#[92, 34]⟩)) (s r : List UInt8) (hs : Zv s = some r) :
    Calls Tryz.prog 61 #[.pointer (some ⟨b, 0, none⟩), .string ⟨s.toArray⟩] w fun e w' => e = .returned (.string ⟨r.toArray⟩) ∧ Kp [b] w w' := by
  have hb1 := hb.set_ 1 (.int .i32 1)
  have hk1 : Kp [b] w (w.setCell ⟨b, 1, none⟩ (.int .i32 1)) := (Kp.refl [b] w).set_ (p := ⟨b, 1, none⟩) (.inl (by simp)) _
  have hcq : ∀ j, (w.setCell ⟨b, 1, none⟩ (.int .i32 1)).cell? ⟨q, j, none⟩ = w.cell? ⟨q, j, none⟩ := fun j => World.cell?_setCell_other _ _ _ _ (fun e => hqb (by have := congrArg Addr.block e; simpa using this.symm))
  have hF := y8v b q c _ (w.setCell ⟨b, 1, none⟩ (.int .i32 1)) hb1 rfl (by have := hk1.size; omega) hqb rfl rfl ((hcq 0).trans q0) ((hcq 1).trans q1) ((hcq 2).trans q2) ((hcq 3).trans q3)
  have hbl := hb.lt
  have hsz1 : (w.setCell ⟨b, 1, none⟩ (.int .i32 1)).heap.size = w.heap.size := World.size_setCell _ _ _
  have hdo := y8a b w (fun w2 => Kp [b] (w.setCell ⟨b, 1, none⟩ (.int .i32 1)) w2 ∧ ∃ G A, (w.setCell ⟨b, 1, none⟩ (.int .i32 1)).heap.size ≤ G ∧ BRep w2 (w.setCell ⟨b, 1, none⟩ (.int .i32 1)).heap.size G A ∧ Blk w2 b 125 (#[.int .u32 0, .int .i32 1, x2, .iface 173 (.pointer (some ⟨G, 0, none⟩)), .slice none 0 0])) ((hb.cell 0).trans rfl) ((hb.cell 1).trans rfl) (hb.frozen 0) (hb.frozen 1) (hF.mono fun e w' h => h)
    (fun w2 ⟨_, G, A, _, _, h3⟩ => ⟨(h3.cell 0).trans rfl, (h3.cell 1).trans rfl, h3.frozen 0, h3.frozen 1⟩)
  rw [hsz1] at hdo
  have hmf : ∀ (fn : Go.Fn) (first cap : Array Value) (w : World), (Instr.makeFunc fn first cap).run Tryz.prog w = .ok (.func fn first cap) w := fun _ _ _ _ => rfl
  have hme : ∀ (v : Value) (w : World), (method 351 173 v "Replace").run Tryz.prog w = .ok (214, v) w := fun _ _ => by kernel_rfl
  clear hF hsz1 hcq hb1 q0 q1 q2 q3
  go_enter Tryz.func61, Tryz.ntmps61
  go_wp2_with (first | (go_at_call 87; refine hdo.mono ?_; rintro e w' ⟨rfl, w2, ⟨hk2, G, A, hG, hrep, hb2⟩, hw⟩; have hb5 := (hb2.drew.set_ 0 (.int .u32 1)).set_ 1 (.int .i32 0); rw [← hw] at hb5; have hk5 := ((hk1.tr hk2).drew.set_ (p := ⟨b, 0, none⟩) (.inl (by simp)) (.int .u32 1)).set_ (p := ⟨b, 1, none⟩) (.inl (by simp)) (.int .i32 0); rw [← hw] at hk5; have hk6 := ((Kp.refl [b] w2).drew.set_ (p := ⟨b, 0, none⟩) (.inl (by simp)) (.int .u32 1)).set_ (p := ⟨b, 1, none⟩) (.inl (by simp)) (.int .i32 0); rw [← hw] at hk6; have hr5 := hrep.keep (b := b) (by omega) hbl hk6; have hbr := y8t w' _ G A hr5 s r hs; have c3 := (hb5.cell 3).trans rfl; clear hw hk2 hrep hb2 hk6 hr5 hb5 hdo) | (go_at_call 214; refine hbr.mono ?_; rintro e w'' ⟨rfl, hk7⟩))
  go_ret
  exact ⟨rfl, hk5.tr0 hk7⟩
theorem y47 (q off c:Nat) (w:World)
  (q0:w.cell? ⟨q,off,none⟩=some (.string ⟨#[92]⟩)) (q1:w.cell? ⟨q,off+1,none⟩=some (.string ⟨#[92,92]⟩)) (q2:w.cell? ⟨q,off+2,none⟩=some (.string ⟨#[34]⟩)) (q3:w.cell? ⟨q,off+3,none⟩=some (.string ⟨#[92,34]⟩)) :
  Calls Tryz.prog 60 #[.slice (some ⟨q,off,none⟩) 4 c] w fun e w'=>∃ (b q' c':Nat) (cs:Array Value),e = .returned (.pointer (some ⟨b,0,none⟩))∧Kp [] w w'∧w.heap.size≤b∧w.heap.size≤q'∧q'≠b∧4≤c' ∧
   Blk w' b 125 #[.int .u32 0,.int .i32 0,.int .u32 0,.nilIface,.slice (some ⟨q',0,none⟩) 4 c']∧Blk w' q' 9 cs∧cs[0]?=some (.string ⟨#[92]⟩)∧cs[1]?=some (.string ⟨#[92,92]⟩)∧cs[2]?=some (.string ⟨#[34]⟩)∧cs[3]?=some (.string ⟨#[92,34]⟩):=by
 obtain ⟨i,z,e1,e2,e3,e4,e5,e6,e7⟩:=(wb:Elem Tryz.prog 63 9 1 _)
 have hap:∀ ty,(Builtin.append_ #[63,63] ty #[.slice none 0 0,.slice (some ⟨q,off,none⟩) 4 c]).run Tryz.prog w=_:=fun ty=>run_append_nil (P:=Tryz.prog) (w:=w) 63 ty 9 i z e1 e2 e3 ⟨q,off,none⟩ 4 c [.string ⟨#[92]⟩,.string ⟨#[92,92]⟩,.string ⟨#[34]⟩,.string ⟨#[92,34]⟩] (by rw [e4]; rfl) (fun j v hj=>by
  rw [Addr.add_lit]
  rcases j with _ | _ | _ | _ | j
  ·cases hj; exact q0
  ·cases hj; exact q1
  ·cases hj; exact q2
  ·cases hj; exact q3
  ·simp at hj) (by omega) (by omega) (by rw [e5]; omega)
 have hge:=grownCap_ge w 4 0 9
 generalize grownCap w 4 0 9=c' at hap hge
 have hcs:∀ j,j < 4→(([Value.string ⟨#[92]⟩,.string ⟨#[92,92]⟩,.string ⟨#[34]⟩,.string ⟨#[92,34]⟩]:List Value).toArray++Builtin.zeroCells z.cells (c' - 4))[j]?=([Value.string ⟨#[92]⟩,.string ⟨#[92,92]⟩,.string ⟨#[34]⟩,.string ⟨#[92,34]⟩]:List Value).toArray[j]?:=fun j hj=>Array.getElem?_append_left hj
 generalize (([Value.string ⟨#[92]⟩,.string ⟨#[92,92]⟩,.string ⟨#[34]⟩,.string ⟨#[92,34]⟩]:List Value).toArray++Builtin.zeroCells z.cells (c' - 4))=cs at hap hcs
 have hN:=Blk.new w.drew 9 cs
 have hK:Kp [] w (w.drew.alloc (.cells cs 9)):=(Kp.refl [] w).drew.alloc _
 have hls:(w.drew.alloc (.cells cs 9)).heap.size=w.heap.size+1:=Array.size_push _
 generalize w.drew.alloc (.cells cs 9)=W1 at *
 have hN2:=hN.alloc (.cells #[.int .u32 0,.int .i32 0,.int .u32 0,.nilIface,.slice (some ⟨w.heap.size,0,none⟩) 4 c'] 125)
 have hB2:=Blk.new W1 125 #[.int .u32 0,.int .i32 0,.int .u32 0,.nilIface,.slice (some ⟨w.heap.size,0,none⟩) 4 c']
 have hK2:=hK.alloc (.cells #[.int .u32 0,.int .i32 0,.int .u32 0,.nilIface,.slice (some ⟨w.heap.size,0,none⟩) 4 c'] 125)
 have hfin:∃ (b q' c1:Nat) (cs:Array Value),(Ending.returned (.pointer (some ⟨W1.heap.size,0,none⟩)):Ending) = .returned (.pointer (some ⟨b,0,none⟩))∧Kp [] w (W1.alloc (.cells #[.int .u32 0,.int .i32 0,.int .u32 0,.nilIface,.slice (some ⟨w.heap.size,0,none⟩) 4 c'] 125))∧w.heap.size≤b∧w.heap.size≤q'∧q'≠b∧4≤c1 ∧
   Blk (W1.alloc (.cells #[.int .u32 0,.int .i32 0,.int .u32 0,.nilIface,.slice (some ⟨w.heap.size,0,none⟩) 4 c'] 125)) b 125 #[.int .u32 0,.int .i32 0,.int .u32 0,.nilIface,.slice (some ⟨q',0,none⟩) 4 c1]∧Blk (W1.alloc (.cells #[.int .u32 0,.int .i32 0,.int .u32 0,.nilIface,.slice (some ⟨w.heap.size,0,none⟩) 4 c'] 125)) q' 9 cs∧cs[0]?=some (.string ⟨#[92]⟩)∧cs[1]?=some (.string ⟨#[92,92]⟩)∧cs[2]?=some (.string ⟨#[34]⟩)∧cs[3]?=some (.string ⟨#[92,34]⟩):=
  ⟨_,_,c',cs,rfl,hK2,by omega,Nat.le_refl _,by omega,hge,hB2,hN2,(hcs 0 (by omega)).trans rfl,(hcs 1 (by omega)).trans rfl,(hcs 2 (by omega)).trans rfl,(hcs 3 (by omega)).trans rfl⟩
 clear hN2 hB2 hK2 hN hK hls hcs hge e1 e2 e3 e4 e5 e6 e7 q0 q1 q2 q3
 go_enter Tryz.func60,Tryz.ntmps60
 go_wp2_with (at_builtin; refine Lib.wpList_append_run _ rfl _ _ _ _ rfl _ _ rfl rfl _ _ (hap _) ?_)
 all_goals trace_state
 go_ret
 exact hfin
end Go.Proofs.YtpjjkhcojjcdpaaGreatDoor
