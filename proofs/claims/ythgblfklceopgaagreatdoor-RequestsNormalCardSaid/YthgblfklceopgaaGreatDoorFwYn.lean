/- Plain: headers set on both sides; a request that is right; requests that are equal. -/
import Derived.Test.YthgblfklceopgaaGreatDoorPtYn
import Derived.Test.YthgblfklceopgaaGreatDoorRsYn
namespace Go.Proofs.YthgblfklceopgaaGreatDoor
set_option linter.unusedVariables false
set_option maxRecDepth 20000
def setG (n v : Bs) : List zaf → List zaf
  | [] => []
  | x :: l => if nmB n x then zaf.mk x.Name v :: l.filter (fun y => !nmB n y) else x :: setG n v l
def stB (n v : Bs) (l : List zaf) : List zaf := if l.any (nmB n) then setG n v l else l ++ [zaf.mk n v]
theorem zzb {n v : Bs} {x : zaf} {l : List zaf} (h : nmB n x = true) : setG n v (x :: l) = zaf.mk x.Name v :: l.filter (fun y => !nmB n y) := by
  show (if nmB n x then _ else _) = _
  rw [h]; rfl
theorem z1i {n v : Bs} {x : zaf} {l : List zaf} (h : nmB n x = false) : setG n v (x :: l) = x :: setG n v l := by
  show (if nmB n x then _ else _) = _
  rw [h]; rfl
theorem zvv (n v : Bs) (hn : ascB n = true) : ∀ (l : List zaf) (k : Nat) (q : List zaf), (∀ x, x ∈ l → nmOK x) → q.length + l.length ≤ 1000000 →
    forL (fun (k : Nat) (x : zaf) (s : Bool × (List zaf)) => zcw n v k x s.1 s.2) (fun (s : Bool × (List zaf)) => zii n v s.1 s.2) k l (true, q) = some (q ++ l.filter fun y => !nmB n y)
  | [], k, q, _, _ => by
    show zii n v true q = _
    unfold zii zj7
    simp
  | x :: l, k, q, h, hl => by
    simp only [List.length_cons] at hl
    have hx := ztn x n (h x (by simp)) hn
    cases hb : nmB n x
    · have hst : zcw n v k x true q = some (.inl (true, q ++ [x])) := by
        unfold zcw zgy
        rw [hx]
        simp only [Option.bind_some, hb, Bool.not_false, if_true]
        rw [if_pos (by omega)]
      show (zcw n v k x true q).bind _ = _
      rw [hst]
      refine Eq.trans (zvv n v hn l (k + 1) (q ++ [x]) (fun y hy => h y (List.mem_cons_of_mem _ hy)) (by simp; omega)) ?_
      rw [List.filter_cons, hb]; simp
    · have hst : zcw n v k x true q = some (.inl (true, q)) := by
        unfold zcw zgy
        rw [hx]
        simp only [Option.bind_some, hb, Bool.not_true, Bool.false_eq_true, if_false]
      show (zcw n v k x true q).bind _ = _
      rw [hst]
      refine Eq.trans (zvv n v hn l (k + 1) q (fun y hy => h y (List.mem_cons_of_mem _ hy)) (by omega)) ?_
      rw [List.filter_cons, hb]; simp
theorem z5q (n v : Bs) (hn : ascB n = true) : ∀ (l : List zaf) (k : Nat) (q : List zaf), (∀ x, x ∈ l → nmOK x) → q.length + l.length ≤ 1000000 →
    forL (fun (k : Nat) (x : zaf) (s : Bool × (List zaf)) => zcw n v k x s.1 s.2) (fun (s : Bool × (List zaf)) => zii n v s.1 s.2) k l (false, q) = some (if l.any (nmB n) then q ++ setG n v l else (q ++ l) ++ [zaf.mk n v])
  | [], k, q, _, hl => by
    show zii n v false q = _
    unfold zii zj7
    rw [if_pos (show (!false) = true from rfl), if_pos (by simp at hl; omega)]
    simp
  | x :: l, k, q, h, hl => by
    simp only [List.length_cons] at hl
    have hx := ztn x n (h x (by simp)) hn
    cases hb : nmB n x
    · have hst : zcw n v k x false q = some (.inl (false, q ++ [x])) := by
        unfold zcw zgy
        rw [hx]
        simp only [Option.bind_some, hb, Bool.not_false, if_true]
        rw [if_pos (by omega)]
      show (zcw n v k x false q).bind _ = _
      rw [hst]
      refine Eq.trans (z5q n v hn l (k + 1) (q ++ [x]) (fun y hy => h y (List.mem_cons_of_mem _ hy)) (by simp; omega)) ?_
      rw [List.any_cons, hb, Bool.false_or, z1i hb]; simp
    · have hst : zcw n v k x false q = some (.inl (true, q ++ [zaf.mk x.Name v])) := by
        unfold zcw zgy
        rw [hx]
        simp only [Option.bind_some, hb, Bool.not_true, Bool.false_eq_true, if_false, Bool.not_false, if_true]
        rw [if_pos (by omega)]
      show (zcw n v k x false q).bind _ = _
      rw [hst]
      refine Eq.trans (zvv n v hn l (k + 1) (q ++ [zaf.mk x.Name v]) (fun y hy => h y (List.mem_cons_of_mem _ hy)) (by simp; omega)) ?_
      rw [List.any_cons, hb, Bool.true_or, if_pos rfl, zzb hb]; simp
theorem z8c (l : List zaf) (n v : Bs) (hl : l.length ≤ 1000) (h : ∀ x, x ∈ l → nmOK x) (hn : ascB n = true) : zmn l n v = some (stB n v l) := by
  unfold zmn stB
  rw [if_pos (by omega), z5q n v hn l 0 [] h (by simp; omega)]
  simp only [List.nil_append]
theorem z1j (n v : Bs) : ∀ (l : List zaf) (k : Nat), l.any (nmB n) = true → ∃ (i : Nat) (x : zaf), fdx (nmB n) k l = ((k + i : Nat) : Int) ∧ i < l.length ∧ l[i]? = some x ∧ setG n v l = l.take i ++ zaf.mk x.Name v :: (l.drop (i + 1)).filter (fun y => !nmB n y)
  | [], k, h => by cases h
  | x :: l, k, h => by
    cases hb : nmB n x
    · rw [List.any_cons, hb, Bool.false_or] at h
      obtain ⟨i, y, h1, h2, h3, h4⟩ := z1j n v l (k + 1) h
      refine ⟨i + 1, y, ?_, by simp; omega, by simpa using h3, ?_⟩
      · simp only [fdx, hb, Bool.false_eq_true, if_false, h1]; omega
      · rw [z1i hb, h4]; simp
    · refine ⟨0, x, ?_, by simp, rfl, ?_⟩
      · simp [fdx, hb]
      · rw [zzb hb]; simp
theorem zr4 (l : List zaf) (n : Bs) (hl : l.length ≤ 1000000) (h : ∀ x, x ∈ l → nmOK x) (hn : ascB n = true ∧ n.length ≤ 100000) : zit l n = some (l.filter fun x => !nmB n x) := by
  unfold zit zee
  rw [if_pos (by omega)]
  simp only [Option.bind_some]
  have e : zbn l (fun (a0 : zaf) => zfz a0 n) = some (l.filter fun x => !nmB n x) :=
    zwb (zaf.mk [] []) l (p := fun (a0 : zaf) => zfz a0 n) (nmB n) (by omega) fun x hx => by
      unfold zfz
      rw [zwm x.Name n (h x hx) hn]; rfl
  rw [e]; rfl
theorem z3q (l : List zaf) (k : Nat) (h : k ≤ l.length) : sub? l (k : Int) (l.length : Int) = some (l.drop k) := by
  unfold sub?
  rw [if_pos (by omega)]
  simp only [Int.toNat_natCast]
  rw [List.take_of_length_le (by simp)]
theorem z36 (l : List zaf) (n v : Bs) (hl : l.length ≤ 1000) (h : ∀ x, x ∈ l → nmOK x) (hn : ascB n = true ∧ n.length ≤ 100000) : zk5 l n v = some (stB n v l) := by
  have e : zb5 l (fun (a0 : zaf) => zha a0 n) = some (fdx (nmB n) 0 l) :=
    z2f l (p := fun (a0 : zaf) => zha a0 n) (nmB n) (by omega) fun x hx => by
      unfold zha
      rw [zwm x.Name n (h x hx) hn]; rfl
  unfold zk5
  rw [e]
  simp only [Option.bind_some]
  rw [z2m]
  unfold stB zee
  cases ha : l.any (nmB n)
  · simp only [Bool.not_false, if_true, Bool.false_eq_true, if_false]
    rw [if_pos (by omega)]
    simp only [Option.bind_some]
    rw [if_pos (by omega)]
  · obtain ⟨i, x, h1, h2, h3, h4⟩ := z1j n v l 0 ha
    rw [Nat.zero_add] at h1
    simp only [Bool.not_true, Bool.false_eq_true, if_false, if_true]
    rw [h1, zy3 l i (by omega)]
    simp only [Option.bind_some]
    have hti : (l.take i).length = i := by simp; omega
    have hf := List.length_filter_le (fun y => !nmB n y) (l.drop (i + 1))
    have hd : (l.drop (i + 1)).length ≤ l.length := by simp
    rw [if_pos (by omega), zvc, h3]
    simp only [Option.bind_some]
    rw [if_pos (by omega), show wr ((i : Int) + 1) = ((i + 1 : Nat) : Int) by rw [zlh (by omega)]; omega, z3q l (i + 1) (by omega)]
    simp only [Option.bind_some]
    rw [zr4 (l.drop (i + 1)) n (by omega) (fun y hy => h y (List.mem_of_mem_drop hy)) hn]
    simp only [Option.bind_some]
    rw [if_pos (by simp only [List.length_append, List.length_cons, List.length_nil]; omega), h4]
    simp
def hvP (n B : Nat) (l : List zaf) : Prop := l.length ≤ n ∧ ∀ x, x ∈ l → nmOK x ∧ x.Value.length ≤ B
theorem zuk {n B : Nat} {l : List zaf} (h : hvP n B l) : ∀ x, x ∈ l → nmOK x := fun x hx => (h.2 x hx).1
theorem z7e : zuj [] = some false := by decide +kernel
theorem zw3 (r : zar) (h : rqP r) : ∃ e, zc4 r = some e ∧ zfs r = some e ∧ (e = 0 → hdsE r.Headers = 0 ∧ fldB r.From = true ∧ (r.Host.length ≤ 2000 ∧ r.Host ≠ [])) := by
  obtain ⟨e, e1, e2⟩ := zw4 r h
  refine ⟨e, e1, e2, fun h0 => ?_⟩
  subst h0
  obtain ⟨p1, p2, p3, p4, p5, p6⟩ := h
  obtain ⟨b, q, c1, c2, c3⟩ := zum p2
  have hh := zsu r.Headers p6
  have hl : r.Host.length ≤ 1000 := of_decide_eq_true (List.all_eq_true.1 zul _ p2)
  have hne : b = true → r.Host ≠ [] := fun hb hx => by
    rw [hx, zui [] (by simp), z7e, hb] at c1
    cases c1
  unfold zc4 zcf at e1
  rw [zrt, zpb _ (by omega), c1, zqm _ (by omega), zr5 _ (by omega), zpd _ (by omega), hh.1] at e1
  simp only [Option.bind_some] at e1
  cases hm : momP r.At
  · rw [hm] at e1; simp at e1
  · cases ht : tokB r.Method
    · rw [hm, ht] at e1; simp at e1
    · cases b
      · rw [hm, ht] at e1; simp at e1
      · cases hp : pthB r.Path
        · rw [hm, ht, hp] at e1; simp at e1
        · cases hq : qryB r.Query
          · rw [hm, ht, hp, hq] at e1; simp at e1
          · cases hf : fldB r.From
            · rw [hm, ht, hp, hq, hf] at e1; simp at e1
            · rw [hm, ht, hp, hq, hf] at e1
              by_cases h0 : hdsE r.Headers = 0
              · exact ⟨h0, rfl, by omega, hne rfl⟩
              · simp [h0] at e1
theorem z2e {r : zar} (h : hdsE r.Headers = 0) : hvP 50 2000 r.Headers ∧ ∀ x, x ∈ r.Headers → ascB x.Value = true := by
  have hok := z8l h
  exact ⟨⟨z7f h, fun x hx => ⟨⟨zxs (hok x hx).1, by have := z6e (hok x hx).1; omega⟩, z7m (hok x hx).2⟩⟩, fun x hx => z5r (z8n (hok x hx).2)⟩
theorem zwd (l : List zaf) (h : l.length ≤ 1000000000) : zby l l = some true :=
  zxg (fun x7 x10 : zaf => !((x7.Name == x10.Name) && ((x7.Value == x10.Value) && true))) (fun x => by simp) l h
theorem z1l (a : zar) (h : a.Headers.length ≤ 1000000000) : zhx a a = some true := by
  unfold zhx zbv
  simp [zwd _ h]
end Go.Proofs.YthgblfklceopgaaGreatDoor
