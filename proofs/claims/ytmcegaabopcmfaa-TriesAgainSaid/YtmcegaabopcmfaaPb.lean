/- Plain: keys and instances: the program's checks and the reference's are one function. -/
import Derived.Test.YtmcegaabopcmfaaPa
namespace Go.Proofs.Ytmcegaabopcmfaa
set_option linter.unusedVariables false

section
variable {α ρ : Type}
def allI (p : Nat → α → Bool) : Nat → List α → Bool
  | _, [] => true
  | k, x :: l => p k x && allI p (k + 1) l
theorem forL_all {body : Nat → α → Unit → Option (Unit ⊕ ρ)} {fin : Unit → Option ρ} {p : Nat → α → Bool} {e r0 : ρ} (hf : fin () = some e) : ∀ (l : List α) (k : Nat), (∀ j x, k ≤ j → l[j - k]? = some x → body j x () = if p j x then some (.inl ()) else some (.inr r0)) → forL body fin k l () = some (if allI p k l then e else r0)
  | [], k, h => by simp only [forL, allI, if_true]; exact hf
  | x :: l, k, h => by
    have h1 := h k x (Nat.le_refl _) (by simp)
    show (body k x ()).bind _ = _
    rw [h1]
    cases hp : p k x
    · simp [allI, hp, after]
    · simp only [allI, hp, Bool.true_and, if_true, Option.bind_some, after]
      refine forL_all hf l (k + 1) fun j y hj hy => h j y (by omega) ?_
      obtain ⟨m, hm⟩ : ∃ m, j - k = m + 1 := ⟨j - k - 1, by omega⟩
      rw [hm, List.getElem?_cons_succ]
      have : j - (k + 1) = m := by omega
      rw [this] at hy; exact hy
/-- the first fault -/
def feI (e : Nat → α → Int) : Nat → List α → Int
  | _, [] => 0
  | k, x :: l => if e k x ≠ 0 then e k x else feI e (k + 1) l
theorem forL_fe {body : Nat → α → Unit → Option (Unit ⊕ Int)} {fin : Unit → Option Int} {e : Nat → α → Int} (hf : fin () = some 0) : ∀ (l : List α) (k : Nat), (∀ j x, k ≤ j → l[j - k]? = some x → body j x () = if e j x ≠ 0 then some (.inr (e j x)) else some (.inl ())) → forL body fin k l () = some (feI e k l)
  | [], k, h => by simp only [forL, feI]; exact hf
  | x :: l, k, h => by
    have h1 := h k x (Nat.le_refl _) (by simp)
    show (body k x ()).bind _ = _
    rw [h1]
    by_cases hp : e k x ≠ 0
    · simp [feI, hp, after]
    · simp only [feI, hp, if_false, Option.bind_some, after]
      refine forL_fe hf l (k + 1) fun j y hj hy => h j y (by omega) ?_
      obtain ⟨m, hm⟩ : ∃ m, j - k = m + 1 := ⟨j - k - 1, by omega⟩
      rw [hm, List.getElem?_cons_succ]
      have : j - (k + 1) = m := by omega
      rw [this] at hy; exact hy
end

/-- a byte of a key at a place -/
def kc (i : Nat) (c : UInt8) : Bool := ((decide (97 ≤ (c.toNat : Int))) && (decide ((c.toNat : Int) ≤ 122))) || ((decide (0 < (i : Int))) && ((((decide (48 ≤ (c.toNat : Int))) && (decide ((c.toNat : Int) ≤ 57))) || (decide ((c.toNat : Int) = 45))) || (decide ((c.toNat : Int) = 95))))
def keyP (s : Bs) : Bool := allI kc 0 s && (decide (s ≠ []) && decide ((s.length : Int) ≤ 40))
theorem isKey_eq (s : Bs) (h : s.length ≤ 1000000000) : m_kit_IsKey s = some (keyP s) := by
  unfold m_kit_IsKey
  rw [if_pos h, forL_all (p := kc) (r0 := false) (e := (decide (s ≠ [])) && (decide ((s.length : Int) ≤ 40))) rfl s 0]
  · congr 1
    unfold keyP
    cases allI kc 0 s <;> simp
  · intro j x _ _
    unfold kit_IsKey_L1
    show (if (!kc j x) = true then _ else _) = _
    cases kc j x <;> simp
def smallsL : Bs := [97, 98, 99, 100, 101, 102, 103, 104, 105, 106, 107, 108, 109, 110, 111, 112, 113, 114, 115, 116, 117, 118, 119, 120, 121, 122]
def keysL : Bs := [97, 98, 99, 100, 101, 102, 103, 104, 105, 106, 107, 108, 109, 110, 111, 112, 113, 114, 115, 116, 117, 118, 119, 120, 121, 122, 48, 49, 50, 51, 52, 53, 54, 55, 56, 57, 45, 95]
theorem u8_all (p : UInt8 → Bool) (h : ((List.range 256).all fun n => p (UInt8.ofNat n)) = true) (c : UInt8) : p c = true := by
  have := List.all_eq_true.1 h c.toNat (by simp; exact c.toNat_lt)
  simpa using this
theorem smalls_at (c : UInt8) : smallsL.contains c = kc 0 c := by
  have := u8_all (fun c => smallsL.contains c == kc 0 c) (by decide +kernel) c
  simpa using this
theorem keys_at (c : UInt8) : keysL.contains c = kc 1 c := by
  have := u8_all (fun c => keysL.contains c == kc 1 c) (by decide +kernel) c
  simpa using this
theorem kc_pos (k : Nat) (c : UInt8) : kc (k + 1) c = kc 1 c := by
  unfold kc
  have : decide (0 < ((k + 1 : Nat) : Int)) = decide (0 < ((1 : Nat) : Int)) := by
    rw [decide_eq_true (by omega), decide_eq_true (by omega)]
  rw [this]
theorem kc_01 (c : UInt8) (h : kc 0 c = true) : kc 1 c = true := by unfold kc at *; simp at h ⊢; exact .inl h
theorem allI_1 (s : Bs) : ∀ k, allI kc (k + 1) s = s.all fun c => kc 1 c := by
  induction s with
  | nil => intro k; rfl
  | cons c s ih => intro k; simp only [allI, List.all_cons, kc_pos, ih]
theorem only_eq (s so : Bs) (h : s.length ≤ 1000000000) : m_gateref2_only s so = some (s.all fun c => so.contains c) := by
  unfold m_gateref2_only
  rw [if_pos h, forL_all (p := fun _ c => so.contains c) (r0 := false) (e := true) rfl s 0]
  · congr 1
    have : ∀ (l : Bs) k, allI (fun _ c => so.contains c) k l = l.all fun c => so.contains c := by
      intro l
      induction l with
      | nil => intro k; rfl
      | cons c l ih => intro k; simp only [allI, List.all_cons, ih]
    rw [this]
    cases (s.all fun c => so.contains c) <;> rfl
  · intro j x _ _
    unfold gateref2_only_L1 m_strings_IndexByte
    simp only [Option.bind_some]
    have e1 : ((x.toNat : Int)).toNat.toUInt8 = x := by simp
    rw [e1, Lib.contains_iff_indexByte]
    by_cases hq : Lib.indexByte so x < 0
    · have : ¬ 0 ≤ Lib.indexByte so x := by omega
      simp [hq, this]
    · have : 0 ≤ Lib.indexByte so x := by omega
      simp [hq, this]
theorem key_eq (s : Bs) (h : s.length ≤ 1000000000) : m_gateref2_Key s = some (keyP s) := by
  unfold m_gateref2_Key m_gateref2_in gateref2_Key_J1
  simp only [Option.bind_some]
  cases s with
  | nil => simp [keyP]
  | cons c r =>
    by_cases h1 : ((c :: r).length : Int) ≤ 40
    · have h2 : (decide ((1 : Int) ≤ ((c :: r).length : Int)) && decide (((c :: r).length : Int) ≤ 40)) = true := by simp only [List.length_cons] at h1 ⊢; simp; omega
      rw [if_pos h2]
      have h3 : sub? (c :: r) 0 1 = some [c] := by
        unfold sub?
        rw [if_pos (by simp only [List.length_cons]; omega)]
        rfl
      rw [h3]
      have e1 := only_eq [c] smallsL (by simp)
      have e2 := only_eq (c :: r) keysL h
      simp only [smallsL, keysL] at e1 e2
      simp only [Option.bind_some, e1, e2]
      have e3 : (List.all [c] fun c => List.contains [97, 98, 99, 100, 101, 102, 103, 104, 105, 106, 107, 108, 109, 110, 111, 112, 113, 114, 115, 116, 117, 118, 119, 120, 121, 122] c) = kc 0 c := by
        have := smalls_at c
        simp only [smallsL] at this
        simp only [List.all_cons, List.all_nil, Bool.and_true, this]
      have e4 : (List.all (c :: r) fun c => List.contains [97, 98, 99, 100, 101, 102, 103, 104, 105, 106, 107, 108, 109, 110, 111, 112, 113, 114, 115, 116, 117, 118, 119, 120, 121, 122, 48, 49, 50, 51, 52, 53, 54, 55, 56, 57, 45, 95] c) = (kc 1 c && r.all fun c => kc 1 c) := by
        have := keys_at
        simp only [keysL] at this
        simp only [List.all_cons, this]
      rw [e3, e4]
      have e5 : keyP (c :: r) = (kc 0 c && r.all fun c => kc 1 c) := by
        unfold keyP
        simp only [allI, allI_1, Nat.zero_add]
        have : decide (((c :: r).length : Int) ≤ 40) = true := by simpa using h1
        rw [this]; simp
      rw [e5]
      cases hk : kc 0 c
      · simp
      · rw [kc_01 c hk]; simp
    · have h2 : (decide ((1 : Int) ≤ ((c :: r).length : Int)) && decide (((c :: r).length : Int) ≤ 40)) = false := by
        have : decide (((c :: r).length : Int) ≤ 40) = false := by simpa using h1
        rw [this]; simp
      rw [h2]
      have : decide (((c :: r).length : Int) ≤ 40) = false := by simpa using h1
      have e5 : keyP (c :: r) = false := by unfold keyP; rw [this]; simp
      rw [e5]; rfl

/-- a list that the laws draw -/
structure InsB (xs : List S_api_Instance) : Prop where
  len : xs.length ≤ 1000
  key : ∀ x, x ∈ xs → x.Key.length ≤ 1000
def leB (a b : Bs) : Bool := Op.bytesLess a b || a == b
def outP (n lo hi : Int) : Bool := decide (n < lo) || decide (hi < n)
/-- the fault of an instance behind a key -/
def ci3 (a b c : Bool) : Int := if (!a) = true then 5 else if b = true then 7 else if c = true then 1 else 0
theorem ci3_eq {σ : Type} (u : σ) (a b c : Bool) : (if (!a) = true then some (.inr 5) else if b = true then some (.inr 7) else if c = true then some (.inr 1) else some (.inl u) : Option (σ ⊕ Int)) = if ci3 a b c ≠ 0 then some (.inr (ci3 a b c)) else some (.inl u) := by
  cases a <;> cases b <;> cases c <;> rfl
def ci1 (x : S_api_Instance) (late : Bool) : Int := ci3 (keyP x.Key) late (outP x.Weight 1 100)
def ciR : List S_api_Instance → Bs → Int
  | [], _ => 0
  | x :: l, last => if ci1 x (leB x.Key last) ≠ 0 then ci1 x (leB x.Key last) else ciR l x.Key
def ciF (xs : List S_api_Instance) : Int := if 50 < xs.length then 2 else ciR xs []
theorem outP_in (n lo hi : Int) : outP n lo hi = !(decide (lo ≤ n) && decide (n ≤ hi)) := by
  unfold outP
  by_cases h1 : n < lo
  · have : ¬ lo ≤ n := by omega
    simp [h1, this]
  · have h1' : lo ≤ n := by omega
    by_cases h2 : hi < n
    · have : ¬ n ≤ hi := by omega
      simp [h1', h2, this]
    · have : n ≤ hi := by omega
      simp [h1, h1', h2, this]
theorem leB_nil {a : Bs} (h : keyP a = true) : leB a [] = false := by
  cases a with
  | nil => simp [keyP] at h
  | cons c r => simp [leB, Op.bytesLess]
theorem ifault_eq (xs : List S_api_Instance) (h : InsB xs) : m_gateref2_InstancesFault xs = some (ciF xs) := by
  unfold m_gateref2_InstancesFault ciF
  by_cases h1 : 50 < xs.length
  · rw [if_pos (by simp; omega), if_pos h1]
  · rw [if_neg (by simp; omega), if_neg h1, if_pos (by have := h.len; omega)]
    have key : ∀ (l : List S_api_Instance) (k : Nat) (last : Bs), (∀ x, x ∈ l → x.Key.length ≤ 1000) → forL (fun (k : Nat) (x : S_api_Instance) (s : Bs) => gateref2_InstancesFault_L1 k x s) (fun (s : Bs) => gateref2_InstancesFault_E1 s) k l last = some (ciR l last) := by
      intro l
      induction l with
      | nil => intro k last _; rfl
      | cons x l ih =>
        intro k last hl
        have hx := key_eq x.Key (by have := hl x (by simp); omega)
        show (gateref2_InstancesFault_L1 k x last).bind _ = _
        have hb : gateref2_InstancesFault_L1 k x last = if ci1 x (leB x.Key last) ≠ 0 then some (.inr (ci1 x (leB x.Key last))) else some (.inl x.Key) := by
          unfold gateref2_InstancesFault_L1 m_gateref2_in ci1
          rw [hx, outP_in]
          simp only [Option.bind_some, leB]
          exact ci3_eq _ _ _ _
        rw [hb]
        simp only [ciR]
        by_cases hc : ci1 x (leB x.Key last) ≠ 0
        · simp only [hc, if_true, ne_eq, not_false_eq_true, Option.bind_some, after]
        · simp only [hc, if_false, Option.bind_some, after]
          exact ih (k + 1) x.Key fun y hy => hl y (List.mem_cons_of_mem _ hy)
    exact key xs 0 [] h.key
theorem chkI_eq (xs : List S_api_Instance) (h : InsB xs) : m_upstream_CheckInstances xs = some (ciF xs) := by
  unfold m_upstream_CheckInstances ciF
  by_cases h1 : 50 < xs.length
  · rw [if_pos (by simp; omega), if_pos h1]
  · rw [if_neg (by simp; omega), if_neg h1, if_pos (by have := h.len; omega)]
    have key : ∀ (l : List S_api_Instance) (k : Nat) (last : Bs), xs.drop k = l → (k = 0 → last = []) → (0 < k → ∃ y, xs[k - 1]? = some y ∧ y.Key = last) → forL (fun (k : Nat) (x : S_api_Instance) (s : Unit) => upstream_CheckInstances_L1 xs k x) (fun (s : Unit) => upstream_CheckInstances_E1) k l () = some (ciR l last) := by
      intro l
      induction l with
      | nil => intro k last _ _ _; rfl
      | cons x l ih =>
        intro k last hd h0 hp
        obtain ⟨d1, d2, d3⟩ := drop_at hd
        have hx := isKey_eq x.Key (by have := h.key x (List.mem_of_getElem? d2); omega)
        show (upstream_CheckInstances_L1 xs k x).bind _ = _
        have hb : upstream_CheckInstances_L1 xs k x = if ci1 x (leB x.Key last) ≠ 0 then some (.inr (ci1 x (leB x.Key last))) else some (.inl ()) := by
          unfold upstream_CheckInstances_L1 upstream_CheckInstances_J2 m_kit_Outside ci1
          rw [hx]
          simp only [Option.bind_some]
          cases hk : keyP x.Key
          · rfl
          · by_cases hk0 : 0 < k
            · obtain ⟨y, hy, rfl⟩ := hp hk0
              have e1 : at? xs ((k : Int) - 1) = some y := by
                rw [show (k : Int) - 1 = ((k - 1 : Nat) : Int) by omega, at_nat]; exact hy
              have e2 : decide (0 < (k : Int)) = true := by simpa using hk0
              simp only [e2, if_true, e1, Option.bind_some, leB, outP]
              exact ci3_eq _ true _ _
            · have hk1 : k = 0 := by omega
              subst hk1
              rw [h0 rfl, leB_nil hk, if_neg (by simp)]
              simp only [outP]
              exact ci3_eq _ true false _
        rw [hb]
        simp only [ciR]
        by_cases hc : ci1 x (leB x.Key last) ≠ 0
        · simp only [hc, if_true, ne_eq, not_false_eq_true, Option.bind_some, after]
        · simp only [hc, if_false, Option.bind_some, after]
          exact ih (k + 1) x.Key d3 (by omega) fun _ => ⟨x, by simpa using d2, rfl⟩
    exact key xs 0 [] rfl (fun _ => rfl) (fun h => by omega)
end Go.Proofs.Ytmcegaabopcmfaa
