/- Plain: claims, delegation, chains: the program and the reference agree; the law ClaimsDelegated is true for every list of numbers. -/
import Derived.Test.YtpeeeanmfmhlgaaGreatDoorVb
namespace Go.Proofs.YtpeeeanmfmhlgaaGreatDoor
set_option linter.unusedVariables false
set_option maxRecDepth 20000
theorem allI_iff {α : Type} (p : Nat → α → Bool) : ∀ (l : List α) (k : Nat), allI p k l = true ↔ ∀ j x, l[j]? = some x → p (k + j) x = true
  | [], k => by simp [allI]
  | y :: l, k => by
    simp only [allI, Bool.and_eq_true, allI_iff p l (k + 1)]
    constructor
    · rintro ⟨h1, h2⟩ j x hj
      cases j with
      | zero => cases hj; exact h1
      | succ j => have := h2 j x (by simpa using hj); rwa [show k + 1 + j = k + (j + 1) by omega] at this
    · intro h
      refine ⟨h 0 y rfl, fun j x hj => ?_⟩
      have := h (j + 1) x (by simpa using hj)
      rwa [show k + (j + 1) = k + 1 + j by omega] at this
theorem eqB_eq (a b : List Bs) (h : a.length ≤ 1000000000) : m_slices_Equal_L_string_string_ a b = some (decide (a = b)) := by
  unfold m_slices_Equal_L_string_string_
  by_cases hl : a.length = b.length
  · rw [if_neg (by simp [hl]), if_pos h, forL_all (p := fun k x => decide (b[k]? = some x)) (e := true) (r0 := false) rfl a 0 fun j x _ hx => ?_]
    · have : allI (fun k x => decide (b[k]? = some x)) 0 a = decide (a = b) := by
        rw [Bool.eq_iff_iff, allI_iff]
        simp only [Nat.zero_add, decide_eq_true_eq]
        constructor
        · intro h
          apply List.ext_getElem?
          intro j
          cases hj : a[j]? with
          | some x => rw [h j x hj]
          | none => rw [List.getElem?_eq_none_iff] at hj; rw [eq_comm, List.getElem?_eq_none_iff]; omega
        · rintro rfl j x hj; exact hj
      rw [this]
      cases decide (a = b) <;> rfl
    · have hx : a[j]? = some x := by simpa using hx
      have hj := lt_some hx
      obtain ⟨y, hy⟩ : ∃ y, b[j]? = some y := ⟨_, List.getElem?_eq_getElem (by omega)⟩
      unfold slices_Equal_L_string_string__L1
      rw [hy]
      simp only [Option.bind_some]
      by_cases hxy : x = y
      · simp [hxy]
      · have : ¬ y = x := fun e => hxy e.symm
        simp [hxy, this]
  · have : a ≠ b := fun e => hl (by rw [e])
    rw [if_pos (by simp; omega)]
    simp [this]

structure ClB (c : S_api_Claims) : Prop where
  id : c.Id.length ≤ 1000000
  subject : c.Subject.length ≤ 1000000
  issuer : c.Issuer.length ≤ 1000000
  parent : c.Parent.length ≤ 1000000
  aud : Sh c.Audience
  sc : Sh c.Scopes
theorem sh_nil : Sh [] := ⟨by simp, by simp⟩
theorem cl_zero : ClB ⟨[], [], [], [], [], [], 0, 0⟩ := ⟨by simp, by simp, by simp, by simp, sh_nil, sh_nil⟩
def keysC (c : S_api_Claims) : Bool := keyP c.Id && keyP c.Subject && keyP c.Issuer && (decide (c.Parent = []) || keyP c.Parent)
def lateA (l : List Bs) (k : Nat) (x : Bs) : Bool := decide (0 < k) && match l[k - 1]? with | some y => Op.bytesLess x y || x == y | none => false
def au1 (l : List Bs) (k : Nat) (x : Bs) : Int := if (!keyP x) = true then 5 else if lateA l k x = true then 7 else 0
def audF (l : List Bs) : Int := feI (au1 l) 0 l
def tlF (c : S_api_Claims) : Int := if scF c.Scopes ≠ 0 then scF c.Scopes else if c.Scopes ≠ lsP c.Scopes then 7 else if (decide (c.From < 0) || decide (c.To ≤ c.From) || decide (345686400000 < c.To)) = true then 1 else 0
def clF (c : S_api_Claims) : Int := if (!keysC c) = true then 5 else if 50 < c.Audience.length then 2 else if audF c.Audience ≠ 0 then audF c.Audience else tlF c
theorem late_at (l : List Bs) (k : Nat) (h : k < l.length) (hk : 0 < k) : ∃ y, l[k - 1]? = some y ∧ at? l ((k : Int) - 1) = some y := by
  refine ⟨_, List.getElem?_eq_getElem (by omega), ?_⟩
  rw [show (k : Int) - 1 = ((k - 1 : Nat) : Int) by omega, at_nat, List.getElem?_eq_getElem (by omega)]
/-- a loop that ends at the first fault, and goes on behind it -/
theorem forL_fe2 {α : Type} {body : Nat → α → Unit → Option (Unit ⊕ Int)} {fin : Unit → Option Int} {e : Nat → α → Int} : ∀ (l : List α) (k : Nat), (∀ j x, k ≤ j → l[j - k]? = some x → body j x () = if e j x ≠ 0 then some (.inr (e j x)) else some (.inl ())) → forL body fin k l () = if feI e k l ≠ 0 then some (feI e k l) else fin ()
  | [], k, h => by simp [forL, feI]
  | x :: l, k, h => by
    have h1 := h k x (Nat.le_refl _) (by simp)
    show (body k x ()).bind _ = _
    rw [h1]
    by_cases h0 : e k x = 0
    · simp only [h0, ne_eq, not_true_eq_false, if_false, Option.bind_some, after, feI]
      refine forL_fe2 l (k + 1) fun j y hj hy => h j y (by omega) ?_
      obtain ⟨m, hm⟩ : ∃ m, j - k = m + 1 := ⟨j - k - 1, by omega⟩
      rw [hm, List.getElem?_cons_succ]
      have : j - (k + 1) = m := by omega
      rw [this] at hy; exact hy
    · simp [h0, feI, after]
theorem au_step (l : List Bs) (h : Sh l) (j : Nat) (x : Bs) (hx : l[j]? = some x) (J : Bool → Option (Unit ⊕ Int)) (hJ : ∀ b, J b = if b = true then some (.inr 7) else some (.inl ())) :
    (if (!keyP x) = true then (some (.inr 5)) else (if decide (0 < (j : Int)) then ((at? l ((j : Int) - 1)).bind fun (x13 : Bs) => J (Op.bytesLess x x13 || x == x13)) else (J false)) : Option (Unit ⊕ Int)) = if au1 l j x ≠ 0 then some (.inr (au1 l j x)) else some (.inl ()) := by
  have hj := lt_some hx
  unfold au1
  cases keyP x
  · simp
  · simp only [Bool.not_true, Bool.false_eq_true, if_false]
    unfold lateA
    by_cases h0 : 0 < j
    · obtain ⟨y, h1, h2⟩ := late_at l j hj h0
      rw [if_pos (by simpa using h0), h2, h1]
      simp only [Option.bind_some, hJ, h0, decide_true, Bool.true_and]
      cases (Op.bytesLess x y || x == y) <;> simp
    · rw [if_neg (by simpa using h0), hJ]
      simp [h0]
theorem audP_eq (l : List Bs) (h : Sh l) : m_kit_RisingFault l = some (audF l) := by
  have hn := h.1
  unfold m_kit_RisingFault audF
  rw [if_pos (by omega), forL_fe (e := au1 l) rfl l 0 fun j x _ hx => ?_]
  have hx : l[j]? = some x := by simpa using hx
  unfold kit_RisingFault_L1
  rw [isKey_eq x (by have := h.2 x (List.mem_of_getElem? hx); omega)]
  simp only [Option.bind_some]
  exact au_step l h j x hx kit_RisingFault_J2 fun b => by unfold kit_RisingFault_J2; rfl
theorem clP_eq (c : S_api_Claims) (h : ClB c) : m_token_CheckClaims c = some (clF c) := by
  have hA := h.aud.1
  have hS := h.sc.1
  have hJ : ∀ b, token_CheckClaims_J1 c b = some (if b = true then 5 else if 50 < c.Audience.length then 2 else if audF c.Audience ≠ 0 then audF c.Audience else tlF c) := by
    intro b
    unfold token_CheckClaims_J1
    cases b
    · simp only [Bool.false_eq_true, if_false]
      by_cases h1 : 50 < c.Audience.length
      · rw [if_pos (by simp; omega), if_pos h1]
      · rw [if_neg (by simp; omega), if_neg h1, audP_eq c.Audience h.aud, chkC_eq c.Scopes h.sc, least_eq c.Scopes h.sc]
        simp only [Option.bind_some]
        rw [eqB_eq c.Scopes (lsP c.Scopes) (by omega)]
        simp only [Option.bind_some]
        by_cases h2 : audF c.Audience = 0
        · simp only [h2, ne_eq, not_true_eq_false, decide_false, Bool.false_eq_true, if_false]
          unfold tlF
          by_cases h3 : scF c.Scopes = 0
          · simp only [h3, ne_eq, not_true_eq_false, decide_false, Bool.false_eq_true, if_false]
            by_cases h4 : c.Scopes = lsP c.Scopes
            · rw [decide_eq_true h4, if_neg (by simp), if_neg (not_not_intro h4)]
              split <;> rfl
            · rw [if_pos (by simp [h4]), if_pos h4]
          · simp [h3]
        · simp [h2]
    · rfl
  unfold m_token_CheckClaims clF keysC
  rw [isKey_eq _ (by have := h.id; omega), isKey_eq _ (by have := h.subject; omega), isKey_eq _ (by have := h.issuer; omega), isKey_eq _ (by have := h.parent; omega)]
  simp only [Option.bind_some, hJ]
  cases keyP c.Id
  · simp
  · cases keyP c.Subject
    · simp
    · cases keyP c.Issuer
      · simp
      · by_cases hp : c.Parent = []
        · simp [hp]
        · cases keyP c.Parent <;> simp [hp]
theorem clR_eq (c : S_api_Claims) (h : ClB c) : m_gateref2_ClaimsFault c = some (clF c) := by
  have hA := h.aud.1
  have hS := h.sc.1
  have hE : gateref2_ClaimsFault_E2 c = some (tlF c) := by
    have hl := lsP_len c.Scopes
    unfold gateref2_ClaimsFault_E2 tlF
    rw [faultC_eq c.Scopes h.sc, leastOf_eq c.Scopes h.sc]
    simp only [Option.bind_some]
    rw [eqB_eq (lsP c.Scopes) c.Scopes (by omega)]
    simp only [Option.bind_some]
    by_cases h3 : scF c.Scopes = 0
    · simp only [h3, ne_eq, not_true_eq_false, decide_false, Bool.false_eq_true, if_false]
      by_cases h4 : c.Scopes = lsP c.Scopes
      · rw [decide_eq_true h4.symm, if_neg (by simp), if_neg (not_not_intro h4)]
        split <;> rfl
      · rw [if_pos (by simp; exact fun e => h4 e.symm), if_pos h4]
    · simp [h3]
  have hJ : ∀ b, gateref2_ClaimsFault_J1 c b = some (if b = true then 5 else if 50 < c.Audience.length then 2 else if audF c.Audience ≠ 0 then audF c.Audience else tlF c) := by
    intro b
    unfold gateref2_ClaimsFault_J1
    cases b
    · simp only [Bool.false_eq_true, if_false]
      by_cases h1 : 50 < c.Audience.length
      · rw [if_pos (by simp; omega), if_pos h1]
      · rw [if_neg (by simp; omega), if_neg h1, if_pos (by omega), forL_fe2 (e := au1 c.Audience) c.Audience 0 fun j x _ hx => ?_]
        · rw [hE]
          show (if audF c.Audience ≠ 0 then some (audF c.Audience) else some (tlF c)) = _
          split <;> rfl
        · have hx : c.Audience[j]? = some x := by simpa using hx
          unfold gateref2_ClaimsFault_L2
          rw [key_eq x (by have := h.aud.2 x (List.mem_of_getElem? hx); omega)]
          simp only [Option.bind_some]
          exact au_step c.Audience h.aud j x hx gateref2_ClaimsFault_J3 fun b => by unfold gateref2_ClaimsFault_J3; rfl
    · rfl
  unfold m_gateref2_ClaimsFault clF keysC
  rw [key_eq _ (by have := h.id; omega), key_eq _ (by have := h.subject; omega), key_eq _ (by have := h.issuer; omega), key_eq _ (by have := h.parent; omega)]
  simp only [Option.bind_some, hJ]
  cases keyP c.Id
  · simp
  · cases keyP c.Subject
    · simp
    · cases keyP c.Issuer
      · simp
      · by_cases hp : c.Parent = []
        · simp [hp]
        · cases keyP c.Parent <;> simp [hp]

/-- what is delegated -/
def dgC (c : S_api_Claims) (i u : Bs) (sc : List Bs) (w : S_api_Window) : S_api_Claims := ⟨i, u, c.Issuer, c.Id, c.Audience, lsP sc, w.From, w.To⟩
def dgE (c : S_api_Claims) (i u : Bs) (sc : List Bs) (w : S_api_Window) : Int := if clF c ≠ 0 then clF c else if scF sc ≠ 0 then scF sc else if (!keyP i || !keyP u) = true then 5 else if i = c.Id then 14 else if (!cvA c.Scopes sc || decide (w.From < c.From) || decide (c.To < w.To)) = true then 16 else clF (dgC c i u sc w)
def dgF (c : S_api_Claims) (i u : Bs) (sc : List Bs) (w : S_api_Window) : S_api_Claims × Int := if dgE c i u sc w ≠ 0 then (⟨[], [], [], [], [], [], 0, 0⟩, dgE c i u sc w) else (dgC c i u sc w, 0)
theorem sh_least {l : List Bs} (h : Sh l) : Sh (lsP l) := ⟨Nat.le_trans (lsP_len l) h.1, fun x hx => h.2 x ((lsP_mem l x).1 hx).1⟩
section
variable (c : S_api_Claims) (i u : Bs) (sc : List Bs) (w : S_api_Window) (h : ClB c) (hi : i.length ≤ 1000000) (hu : u.length ≤ 1000000) (hs : Sh sc)
include h hi hu hs
theorem dg_ok : ClB (dgC c i u sc w) := ⟨hi, hu, h.issuer, h.id, h.aud, sh_least hs⟩
theorem dgF_ok : ClB (dgF c i u sc w).1 := by
  unfold dgF
  split
  · exact cl_zero
  · exact dg_ok c i u sc w h hi hu hs
theorem dgP_eq : m_token_Delegate c i u sc w = some (dgF c i u sc w) := by
  have hJ : ∀ b, clF c = 0 → scF sc = 0 → b = (!keyP i || !keyP u) → token_Delegate_J1 c i u sc w b = some (dgF c i u sc w) := by
    intro b h1 h2 hb
    unfold token_Delegate_J1 m_slices_Clone dgF dgE
    rw [coverAll_eq c.Scopes sc h.sc hs, if_pos (show c.Audience.length ≤ 1000000000 by have := h.aud.1; omega), least_eq sc hs]
    simp only [Option.bind_some, h1, h2, ← hb, ne_eq, not_true_eq_false, if_false]
    rw [show (S_api_Claims.mk i u c.Issuer c.Id c.Audience (lsP sc) w.From w.To) = dgC c i u sc w from rfl, clP_eq _ (dg_ok c i u sc w h hi hu hs)]
    simp only [Option.bind_some]
    cases b
    · simp only [Bool.false_eq_true, if_false]
      by_cases h3 : i = c.Id
      · simp [h3]
      · cases hcv : cvA c.Scopes sc
        · simp [h3]
        · cases hw : (decide (w.From < c.From) || decide (c.To < w.To))
          · simp only [Bool.or_eq_false_iff] at hw
            simp only [h3, hw.1, hw.2, decide_false, Bool.not_true, Bool.or_false, Bool.false_eq_true, if_false]
            by_cases h4 : clF (dgC c i u sc w) = 0 <;> simp [h4]
          · simp only [h3, decide_false, Bool.not_true, Bool.false_or, Bool.false_eq_true, if_false, hw, if_true]
            simp
    · simp
  unfold m_token_Delegate
  rw [clP_eq c h, chkC_eq sc hs, isKey_eq i (by omega), isKey_eq u (by omega)]
  simp only [Option.bind_some]
  by_cases h1 : clF c = 0
  · by_cases h2 : scF sc = 0
    · simp only [h1, h2, ne_eq, not_true_eq_false, decide_false, Bool.false_eq_true, if_false]
      cases hk : keyP i
      · exact hJ true h1 h2 (by simp [hk])
      · exact hJ _ h1 h2 (by simp [hk])
    · unfold dgF dgE; simp [h1, h2]
  · unfold dgF dgE; simp [h1]
theorem dgR_eq : m_gateref2_DelegateOf c i u sc w = some (dgF c i u sc w) := by
  have hJ : ∀ b, clF c = 0 → scF sc = 0 → b = (!keyP i || !keyP u) → gateref2_DelegateOf_J2 c i u sc w b = some (dgF c i u sc w) := by
    intro b h1 h2 hb
    unfold gateref2_DelegateOf_J2 m_slices_Clone dgF dgE
    rw [coversOf_eq c.Scopes sc h.sc hs, if_pos (show c.Audience.length ≤ 1000000000 by have := h.aud.1; omega), leastOf_eq sc hs]
    simp only [Option.bind_some, h1, h2, ← hb, ne_eq, not_true_eq_false, if_false]
    rw [show (S_api_Claims.mk i u c.Issuer c.Id c.Audience (lsP sc) w.From w.To) = dgC c i u sc w from rfl, clR_eq _ (dg_ok c i u sc w h hi hu hs)]
    simp only [Option.bind_some]
    cases b
    · simp only [Bool.false_eq_true, if_false]
      by_cases h3 : i = c.Id
      · simp [h3]
      · cases hcv : (!cvA c.Scopes sc || decide (w.From < c.From) || decide (c.To < w.To))
        · simp only [h3, decide_false, Bool.false_eq_true, if_false]
          by_cases h4 : clF (dgC c i u sc w) = 0 <;> simp [h4]
        · simp [h3]
    · simp
  unfold m_gateref2_DelegateOf
  rw [clR_eq c h, faultC_eq sc hs]
  simp only [Option.bind_some]
  rw [if_pos (by simp)]
  have hE : clF c = 0 → scF sc = 0 → gateref2_DelegateOf_E1 c i u sc w = some (dgF c i u sc w) := by
    intro h1 h2
    unfold gateref2_DelegateOf_E1
    rw [key_eq i (by omega), key_eq u (by omega)]
    simp only [Option.bind_some]
    cases hk : keyP i
    · exact hJ true h1 h2 (by simp [hk])
    · exact hJ _ h1 h2 (by simp [hk])
  by_cases h1 : clF c = 0
  · by_cases h2 : scF sc = 0
    · simp only [forL, gateref2_DelegateOf_L1, h1, h2, ne_eq, not_true_eq_false, decide_false, Bool.false_eq_true, if_false, Option.bind_some, after]
      exact hE h1 h2
    · unfold dgF dgE; simp [forL, gateref2_DelegateOf_L1, after, h1, h2]
  · unfold dgF dgE; simp [forL, gateref2_DelegateOf_L1, after, h1]
end
theorem same_eq (c : S_api_Claims) (h : ClB c) : m_gateref2_SameClaims c c = some true := by
  unfold m_gateref2_SameClaims gateref2_SameClaims_J1
  rw [eqB_eq _ _ (by have := h.aud.1; omega), eqB_eq _ _ (by have := h.sc.1; omega)]
  simp

/-- chains -/
def ch1 (l : List S_api_Claims) (k : Nat) (x p : S_api_Claims) : Int :=
  if x.Parent ≠ p.Id then 3 else if ((l.take k).any fun o => decide (o.Id = x.Id)) = true then 14 else if (decide (x.Issuer ≠ p.Issuer) || !decide (x.Audience = p.Audience)) = true then 13 else if (!cvA p.Scopes x.Scopes || decide (x.From < p.From) || decide (p.To < x.To)) = true then 16 else 0
theorem conC_eq (l : List S_api_Claims) (h : l.length ≤ 1000000000) (p : S_api_Claims → Option Bool) (q : S_api_Claims → Bool) (hp : ∀ x, p x = some (q x)) : m_slices_ContainsFunc_L_api_Claims_api_Claims_ l p = some (l.any q) :=
  gCon_eq l q h fun x _ => hp x
section
variable (l : List S_api_Claims) (hl : l.length ≤ 100) (hc : ∀ c, c ∈ l → ClB c)
include hl hc
theorem chP_eq (k : Nat) (x p : S_api_Claims) (hx : l[k + 1]? = some x) (hp : l[k]? = some p) : m_token_chainFault l ((k + 1 : Nat) : Int) = some (ch1 l (k + 1) x p) := by
  have bx := hc x (List.mem_of_getElem? hx)
  have bp := hc p (List.mem_of_getElem? hp)
  have hj := lt_some hx
  have e1 : wr (((k + 1 : Nat) : Int) - 1) = ((k : Nat) : Int) := by rw [wr_id (by omega)]; omega
  unfold m_token_chainFault token_chainFault_J1 ch1
  rw [e1, at_nat, at_nat, hx, hp, sub_take l (k + 1) (by omega)]
  simp only [Option.bind_some]
  rw [conC_eq (l.take (k + 1)) (by simp; omega) (fun a0 => m_token_chainFault_1 a0 x) (fun o => decide (o.Id = x.Id)) (fun o => rfl), eqB_eq x.Audience p.Audience (by have := bx.aud.1; omega), coverAll_eq _ _ bp.sc bx.sc]
  simp only [Option.bind_some]
  by_cases h1 : x.Parent = p.Id
  · simp only [h1, ne_eq, not_true_eq_false, decide_false, Bool.false_eq_true, if_false]
    cases ((l.take (k + 1)).any fun o => decide (o.Id = x.Id))
    · simp only [Bool.false_eq_true, if_false]
      by_cases h2 : x.Issuer = p.Issuer
      · by_cases h3 : x.Audience = p.Audience
        · simp only [h2, h3, not_true_eq_false, decide_false, decide_true, Bool.not_true, Bool.or_self, Bool.false_eq_true, if_false]
          split <;> rfl
        · simp [h2, h3]
      · simp [h2]
    · simp
  · simp [h1]
theorem chR_eq (k : Nat) (x p : S_api_Claims) (hx : l[k + 1]? = some x) (hp : l[k]? = some p) : gateref2_ChainFault_L3 l ((k + 1 : Nat) : Int) = if ch1 l (k + 1) x p ≠ 0 then some (.inr (ch1 l (k + 1) x p)) else some (.inl ((k + 1 + 1 : Nat) : Int)) := by
  have bx := hc x (List.mem_of_getElem? hx)
  have bp := hc p (List.mem_of_getElem? hp)
  have hj := lt_some hx
  have e1 : wr (((k + 1 : Nat) : Int) - 1) = ((k : Nat) : Int) := by rw [wr_id (by omega)]; omega
  unfold gateref2_ChainFault_L3 gateref2_ChainFault_J4 ch1
  rw [if_pos (by simp; omega), e1, at_nat, at_nat, hx, hp, sub_take l (k + 1) (by omega), wr_nat (by omega)]
  simp only [Option.bind_some]
  rw [conC_eq (l.take (k + 1)) (by simp; omega) (fun a0 => m_gateref2_ChainFault_1 a0 x) (fun o => decide (o.Id = x.Id)) (fun o => rfl), eqB_eq x.Audience p.Audience (by have := bx.aud.1; omega), coversOf_eq _ _ bp.sc bx.sc]
  simp only [Option.bind_some]
  by_cases h1 : x.Parent = p.Id
  · simp only [h1, ne_eq, not_true_eq_false, decide_false, Bool.false_eq_true, if_false]
    cases ((l.take (k + 1)).any fun o => decide (o.Id = x.Id))
    · simp only [Bool.false_eq_true, if_false]
      by_cases h2 : x.Issuer = p.Issuer
      · by_cases h3 : x.Audience = p.Audience
        · simp only [h2, h3, not_true_eq_false, decide_false, decide_true, Bool.not_true, Bool.or_self, Bool.false_eq_true, if_false]
          cases (!cvA p.Scopes x.Scopes || decide (x.From < p.From) || decide (p.To < x.To)) <;> simp
        · simp [h2, h3]
      · simp [h2]
    · simp
  · simp [h1]
theorem ch_iter : ∀ (m i : Nat), l.length ≤ i + 1 + m → i ≤ 100 → ∃ e, iter (fun (s : Int) => token_CheckChain_L3 l s) ((i + 1 : Nat) : Int) = some e ∧ iter (fun (s : Int) => gateref2_ChainFault_L3 l s) ((i + 1 : Nat) : Int) = some e := by
  intro m
  induction m with
  | zero =>
    intro i h1 h2
    refine ⟨0, ?_, ?_⟩
    · rw [iter_eq]
      show (token_CheckChain_L3 l ((i + 1 : Nat) : Int)).bind _ = _
      unfold token_CheckChain_L3
      rw [if_neg (by simp; omega)]; rfl
    · rw [iter_eq]
      show (gateref2_ChainFault_L3 l ((i + 1 : Nat) : Int)).bind _ = _
      unfold gateref2_ChainFault_L3
      rw [if_neg (by simp; omega)]; rfl
  | succ m ih =>
    intro i h1 h2
    by_cases h : i + 1 < l.length
    · obtain ⟨x, hx⟩ : ∃ x, l[i + 1]? = some x := ⟨_, List.getElem?_eq_getElem h⟩
      obtain ⟨p, hp⟩ : ∃ p, l[i]? = some p := ⟨_, List.getElem?_eq_getElem (by omega)⟩
      have hP : token_CheckChain_L3 l ((i + 1 : Nat) : Int) = if ch1 l (i + 1) x p ≠ 0 then some (.inr (ch1 l (i + 1) x p)) else some (.inl ((i + 1 + 1 : Nat) : Int)) := by
        unfold token_CheckChain_L3
        rw [if_pos (by simp; omega), chP_eq l hl hc i x p hx hp, wr_nat (by omega)]
        simp only [Option.bind_some]
        by_cases h0 : ch1 l (i + 1) x p = 0 <;> simp [h0]
      have hR := chR_eq l hl hc i x p hx hp
      by_cases h0 : ch1 l (i + 1) x p = 0
      · obtain ⟨e, e1, e2⟩ := ih (i + 1) (by omega) (by omega)
        refine ⟨e, ?_, ?_⟩
        · rw [iter_eq]
          show (token_CheckChain_L3 l ((i + 1 : Nat) : Int)).bind _ = _
          rw [hP, if_neg (by simp [h0])]
          exact e1
        · rw [iter_eq]
          show (gateref2_ChainFault_L3 l ((i + 1 : Nat) : Int)).bind _ = _
          rw [hR, if_neg (by simp [h0])]
          exact e2
      · refine ⟨ch1 l (i + 1) x p, ?_, ?_⟩
        · rw [iter_eq]
          show (token_CheckChain_L3 l ((i + 1 : Nat) : Int)).bind _ = _
          rw [hP, if_pos h0]; rfl
        · rw [iter_eq]
          show (gateref2_ChainFault_L3 l ((i + 1 : Nat) : Int)).bind _ = _
          rw [hR, if_pos h0]; rfl
    · refine ⟨0, ?_, ?_⟩
      · rw [iter_eq]
        show (token_CheckChain_L3 l ((i + 1 : Nat) : Int)).bind _ = _
        unfold token_CheckChain_L3
        rw [if_neg (by simp; omega)]; rfl
      · rw [iter_eq]
        show (gateref2_ChainFault_L3 l ((i + 1 : Nat) : Int)).bind _ = _
        unfold gateref2_ChainFault_L3
        rw [if_neg (by simp; omega)]; rfl
theorem chain_eq : ∃ e, m_token_CheckChain l = some e ∧ m_gateref2_ChainFault l = some e := by
  unfold m_token_CheckChain m_gateref2_ChainFault
  by_cases h1 : 10 < l.length
  · rw [if_pos (by simp; omega), if_pos (by simp; omega)]
    exact ⟨_, rfl, rfl⟩
  · rw [if_neg (by simp; omega), if_pos (by omega), if_neg (by simp; omega), if_pos (by omega)]
    rw [forL_fe2 (e := fun _ x => clF x) l 0 fun j x _ hx => ?_, forL_fe2 (e := fun _ x => clF x) l 0 fun j x _ hx => ?_]
    · by_cases h2 : feI (fun _ x => clF x) 0 l = 0
      · rw [if_neg (by simp [h2]), if_neg (by simp [h2])]
        unfold token_CheckChain_E1 gateref2_ChainFault_E1
        by_cases h3 : l.length = 0
        · rw [if_pos (by simp [h3]), if_pos (by simp [h3])]; exact ⟨_, rfl, rfl⟩
        · rw [if_neg (by simp; intro e; simp [e] at h3), if_neg (by simp; intro e; simp [e] at h3)]
          rw [List.getElem?_eq_getElem (show 0 < l.length by omega)]
          simp only [Option.bind_some]
          split
          · exact ⟨_, rfl, rfl⟩
          · exact ch_iter l hl hc 100 0 (by omega) (by omega)
      · rw [if_pos h2, if_pos h2]; exact ⟨_, rfl, rfl⟩
    · have hx : l[j]? = some x := by simpa using hx
      unfold gateref2_ChainFault_L1
      rw [clR_eq x (hc x (List.mem_of_getElem? hx))]
      simp only [Option.bind_some]
      by_cases h0 : clF x = 0 <;> simp [h0]
    · have hx : l[j]? = some x := by simpa using hx
      unfold token_CheckChain_L1
      rw [clP_eq x (hc x (List.mem_of_getElem? hx))]
      simp only [Option.bind_some]
      by_cases h0 : clF x = 0 <;> simp [h0]
end

/-- what the stream gives -/
theorem at_ok {α : Type} (l : List α) (n : Int) (h : 0 ≤ n ∧ n < l.length) : Ok (at? l n) fun x => x ∈ l := by
  unfold at?
  rw [if_pos h.1, List.getElem?_eq_getElem (by omega)]
  exact ⟨_, rfl, List.getElem_mem _⟩
theorem mem_short {x : Bs} {l : List Bs} (h : x ∈ l) (hl : l.all fun y => decide (y.length ≤ 1000000)) : x.length ≤ 1000000 := by
  have := List.all_eq_true.1 hl x h
  simpa using this
theorem mem_sh {x : List Bs} {l : List (List Bs)} (h : x ∈ l) (hl : l.all fun y => decide (y.length ≤ 1000000) && y.all fun z => decide (z.length ≤ 1000000)) : Sh x := by
  have := List.all_eq_true.1 hl x h
  simp only [Bool.and_eq_true, decide_eq_true_eq, List.all_eq_true] at this
  exact this
theorem rightCl_ok {k : Int} {s : S_gatemake_Stream} (h : SB k s) (hk : k ≤ 100000) : Ok (m_gatemake_Stream_RightClaims s) fun r => ClB r.1 ∧ SB (k + 20) r.2 := by
  unfold m_gatemake_Stream_RightClaims
  refine ok_bind (some_ok h (by omega) _ ⟨by simp, by simp⟩) fun r2 h2 => ok_bind (some_ok h2.2 (by omega) _ ⟨by simp, by simp⟩) fun r4 h4 => ok_bind (some_ok h4.2 (by omega) _ ⟨by simp, by simp⟩) fun r6 h6 => ok_bind (some_ok h6.2 (by omega) _ ⟨by simp, by simp⟩) fun r8 h8 => ok_bind (next_ok h8.2 (by omega) _ (by omega)) fun r10 h10 => ?_
  refine ok_bind (at_ok _ _ ⟨h10.1.1, by have := h10.1.2.1 (by omega); simp; omega⟩) fun x12 h12 => ok_bind (rightSc_ok h10.2 (by omega)) fun r14 h14 => ?_
  have hsh : Sh r14.1 := ⟨by have := h14.1.1; omega, fun x hx => by have := h14.1.2 x hx; omega⟩
  rw [leastOf_eq r14.1 hsh]
  simp only [Option.bind_some]
  refine ok_bind (pick_ok h14.2 (by omega) _ ⟨by simp, by simp⟩) fun r18 h18 => ok_bind (pick_ok h18.2 (by omega) _ ⟨by simp, by simp⟩) fun r20 h20 => ok_some ⟨⟨mem_short h2.1 (by decide), mem_short h4.1 (by decide), mem_short h6.1 (by decide), mem_short h8.1 (by decide), mem_sh h12 (by decide), sh_least hsh⟩, h20.2.mono (by omega)⟩
theorem claims_ok {k : Int} {s : S_gatemake_Stream} (h : SB k s) (hk : k ≤ 10000) : Ok (m_gatemake_Stream_Claims s) fun r => ClB r.1 ∧ SB (k + 60) r.2 := by
  unfold m_gatemake_Stream_Claims gatemake_Stream_Claims_J1
  refine ok_bind (rightCl_ok h (by omega)) fun r2 h2 => ok_bind (flip_ok h2.2 (by omega) _ (by omega)) fun r4 h4 => ok_if (fun _ => ?_) (fun _ => ok_some ⟨⟨h2.1.id, h2.1.subject, h2.1.issuer, h2.1.parent, h2.1.aud, h2.1.sc⟩, h4.mono (by omega)⟩)
  have b := h2.1
  refine ok_bind (next_ok h4 (by omega) _ (by omega)) fun r7 h7 => ok_if (fun _ => ?_) (fun _ => ok_if (fun _ => ?_) (fun _ => ok_if (fun _ => ?_) (fun _ => ok_if (fun _ => ?_) (fun _ => ?_))))
  · exact ok_bind (some_ok h7.2 (by omega) _ ⟨by simp, by simp⟩) fun r10 h10 => ok_bind (some_ok h10.2 (by omega) _ ⟨by simp, by simp⟩) fun r12 h12 => ok_some ⟨⟨mem_short h10.1 (by decide), mem_short h12.1 (by decide), b.issuer, b.parent, b.aud, b.sc⟩, h12.2.mono (by omega)⟩
  · exact ok_bind (some_ok h7.2 (by omega) _ ⟨by simp, by simp⟩) fun r10 h10 => ok_bind (some_ok h10.2 (by omega) _ ⟨by simp, by simp⟩) fun r12 h12 => ok_some ⟨⟨b.id, b.subject, mem_short h10.1 (by decide), mem_short h12.1 (by decide), b.aud, b.sc⟩, h12.2.mono (by omega)⟩
  · exact ok_bind (next_ok h7.2 (by omega) _ (by omega)) fun r20 h20 => ok_bind (at_ok _ _ ⟨h20.1.1, by have := h20.1.2.1 (by omega); simp; omega⟩) fun x22 h22 => ok_some ⟨⟨b.id, b.subject, b.issuer, b.parent, mem_sh h22 (by decide), b.sc⟩, h20.2.mono (by omega)⟩
  · exact ok_bind (scopes_ok h7.2 (by omega)) fun r25 h25 => ok_some ⟨⟨b.id, b.subject, b.issuer, b.parent, b.aud, h25.1.2⟩, h25.2.mono (by omega)⟩
  · exact ok_bind (odd_ok h7.2 (by omega) _ _ (by omega)) fun r27 h27 => ok_bind (odd_ok h27.2 (by omega) _ _ (by omega)) fun r29 h29 => ok_some ⟨⟨b.id, b.subject, b.issuer, b.parent, b.aud, b.sc⟩, h29.2.mono (by omega)⟩
theorem claimsDelegated_plain (L : List Int) : m_gatelaw2_ClaimsDelegated L = some true := by
  refine ok_eq ?_
  unfold m_gatelaw2_ClaimsDelegated
  refine ok_bind (claims_ok (k := 0) ⟨by simp, by simp⟩ (by omega)) fun r2 h2 => ok_bind (some_ok h2.2 (by omega) _ ⟨by simp, by simp⟩) fun r4 h4 => ok_bind (some_ok h4.2 (by omega) _ ⟨by simp, by simp⟩) fun r6 h6 => ok_bind (scopes_ok h6.2 (by omega)) fun r8 h8 => ok_bind (flip_ok h8.2 (by omega) _ (by omega)) fun r10 h10 => ?_
  have b := h2.1
  have hid : r4.1.length ≤ 1000000 := mem_short h4.1 (by decide)
  have hsu : r6.1.length ≤ 1000000 := mem_short h6.1 (by decide)
  have hJ7 : ∀ l : List S_api_Claims, l.length ≤ 100 → (∀ c, c ∈ l → ClB c) → gatelaw2_ClaimsDelegated_J7 l = some true := by
    intro l hl hc
    obtain ⟨e, e1, e2⟩ := chain_eq l hl hc
    unfold gatelaw2_ClaimsDelegated_J7 gatelaw2_ClaimsDelegated_J8
    rw [e1, e2]
    simp [signed_eq]
  have hJ4 : ∀ (l : List S_api_Claims) (c : List Int) (d : Int), l.length ≤ 100 → (∀ c, c ∈ l → ClB c) → SB 10000 ⟨c, d⟩ → Ok (gatelaw2_ClaimsDelegated_J4 l c d) (· = true) := by
    intro l c d hl hc hs
    unfold gatelaw2_ClaimsDelegated_J4
    refine ok_bind (flip_ok hs (by omega) _ (by omega)) fun r h => ok_if (fun _ => ok_bind (pick_ok h (by omega) _ ⟨by simp, by simp⟩) fun q hq => ?_) (fun _ => ok_of (hJ7 l hl hc) rfl)
    have hm := hq.1
    simp only [List.mem_cons, List.not_mem_nil, or_false] at hm
    refine ok_g (by omega) (ok_of (hJ7 _ (by simp; omega) fun c hc => ?_) rfl)
    rw [List.eq_of_mem_replicate hc]; exact cl_zero
  have hJ3 : ∀ (x : S_api_Claims) (c : List Int) (d : Int), ClB x → SB 200 ⟨c, d⟩ → Ok (gatelaw2_ClaimsDelegated_J3 [x] c d) (· = true) := by
    intro x c d hx hs
    unfold gatelaw2_ClaimsDelegated_J3
    refine ok_bind (range_ok hs (by omega) 0 3 (by omega)) fun r39 h39 => ?_
    have hsub : Ok (sub? ([[116, 55], [116, 56], [116, 57]] : List Bs) 0 r39.1) fun l => l.length ≤ 3 ∧ ∀ x, x ∈ l → x.length ≤ 2 := by
      unfold sub?
      rw [if_pos (by simp; omega)]
      refine ok_some ⟨by simp; omega, fun x hx => ?_⟩
      have := List.mem_of_mem_take hx
      have := List.mem_of_mem_drop this
      simp at this
      rcases this with rfl | rfl | rfl <;> decide
    refine ok_bind hsub fun l4 h4 => ok_g (by omega) ?_
    refine ok_forL (fun (j : Nat) (q : (List Int) × Int × (List S_api_Claims)) => SB (201 + 4 * (j : Int)) ⟨q.1, q.2.1⟩ ∧ 1 ≤ q.2.2.length ∧ q.2.2.length ≤ 1 + j ∧ ∀ x, x ∈ q.2.2 → ClB x) l4 0 _ ⟨by simpa using h39.2, by simp, by simp, fun y hy => by simp only [List.mem_singleton] at hy; subst hy; exact hx⟩ ?_ ?_
    · rintro j y ⟨c43, c44, l⟩ _ hy ⟨q1, q2, q3, q4⟩
      simp only at q1 q2 q3 q4
      have hy : l4[j]? = some y := by simpa using hy
      have hj := lt_some hy
      have hyl := h4.2 y (List.mem_of_getElem? hy)
      have hn := h4.1
      unfold gatelaw2_ClaimsDelegated_L5
      refine ok_bind (at_ok l _ ?_) fun z hz => ?_
      · have e1 : wr ((l.length : Int) - 1) = ((l.length - 1 : Nat) : Int) := by rw [wr_id (by omega)]; omega
        show 0 ≤ wr ((l.length : Int) - 1) ∧ wr ((l.length : Int) - 1) < l.length
        rw [e1]; omega
      have bz := q4 z hz
      rw [dgR_eq z y [98, 111, 116] z.Scopes ⟨z.From, z.To⟩ bz (by omega) (by decide) bz.sc]
      have bd := dgF_ok z y [98, 111, 116] z.Scopes ⟨z.From, z.To⟩ bz (by omega) (by decide) bz.sc
      simp only [Option.bind_some]
      generalize dgF z y [98, 111, 116] z.Scopes ⟨z.From, z.To⟩ = r54 at bd
      refine ok_if (fun _ => ?_) (fun _ => ?_)
      · obtain ⟨v, hv, hv2⟩ := hJ4 l c43 c44 (by omega) q4 (q1.mono (by omega))
        rw [hv]
        exact ok_some hv2
      · have hJ6 : ∀ (i is pa : Bs) (sc : List Bs) (to_ : Int) (c : List Int) (d : Int), i.length ≤ 1000000 → is.length ≤ 1000000 → pa.length ≤ 1000000 → Sh sc → SB (201 + 4 * ((j + 1 : Nat) : Int)) ⟨c, d⟩ → Ok (gatelaw2_ClaimsDelegated_J6 l r54 i is pa sc to_ c d) (rd (fun q => SB (201 + 4 * ((j + 1 : Nat) : Int)) ⟨q.1, q.2.1⟩ ∧ 1 ≤ q.2.2.length ∧ q.2.2.length ≤ 1 + (j + 1) ∧ ∀ x, x ∈ q.2.2 → ClB x) (· = true)) := by
          intro i is pa sc to_ c d b1 b2 b3 b4 hs
          unfold gatelaw2_ClaimsDelegated_J6
          refine ok_g (by omega) (ok_some ⟨hs, by simp, by simp; omega, fun x hx => ?_⟩)
          rcases List.mem_append.1 hx with hx | hx
          · exact q4 x hx
          · simp only [List.mem_singleton] at hx
            subst hx
            exact ⟨b1, bd.subject, b2, b3, bd.aud, b4⟩
        refine ok_bind (flip_ok q1 (by omega) _ (by omega)) fun r57 h57 => ok_if (fun _ => ?_) (fun _ => hJ6 _ _ _ _ _ _ _ bd.id bd.issuer bd.parent bd.sc (h57.mono (by omega)))
        refine ok_bind (next_ok h57 (by omega) _ (by omega)) fun r60 h60 => ok_if (fun _ => ?_) (fun _ => ok_if (fun _ => ?_) (fun _ => ok_if (fun _ => ?_) (fun _ => ok_if (fun _ => ?_) (fun _ => ?_))))
        · exact ok_bind (some_ok h60.2 (by omega) _ ⟨by simp, by simp⟩) fun r63 h63 => hJ6 _ _ _ _ _ _ _ bd.id bd.issuer (mem_short h63.1 (by decide)) bd.sc (h63.2.mono (by omega))
        · exact ok_bind (some_ok h60.2 (by omega) _ ⟨by simp, by simp⟩) fun r66 h66 => hJ6 _ _ _ _ _ _ _ (mem_short h66.1 (by decide)) bd.issuer bd.parent bd.sc (h66.2.mono (by omega))
        · exact hJ6 _ _ _ _ _ _ _ bd.id (by decide) bd.parent bd.sc (h60.2.mono (by omega))
        · exact hJ6 _ _ _ _ _ _ _ bd.id bd.issuer bd.parent bd.sc (h60.2.mono (by omega))
        · exact hJ6 _ _ _ _ _ _ _ bd.id bd.issuer bd.parent ⟨by decide, by decide⟩ (h60.2.mono (by omega))
    · rintro ⟨c43, c44, l⟩ ⟨q1, q2, q3, q4⟩
      simp only at q1 q2 q3 q4
      unfold gatelaw2_ClaimsDelegated_E5
      exact hJ4 l c43 c44 (by omega) q4 (q1.mono (by omega))
  have hJ1 : ∀ (sc : List Bs) (c : List Int) (d : Int), Sh sc → SB 100 ⟨c, d⟩ → Ok (gatelaw2_ClaimsDelegated_J1 r2 r4 r6 sc c d) (· = true) := by
    intro sc c d hsc hs
    unfold gatelaw2_ClaimsDelegated_J1
    refine ok_bind (pick_ok hs (by omega) _ ⟨by simp, by simp⟩) fun r16 h16 => ok_bind (pick_ok h16.2 (by omega) _ ⟨by simp, by simp⟩) fun r18 h18 => ?_
    rw [dgP_eq r2.1 r4.1 r6.1 sc _ b hid hsu hsc, dgR_eq r2.1 r4.1 r6.1 sc _ b hid hsu hsc]
    simp only [Option.bind_some]
    rw [if_neg (by simp), same_eq _ (dgF_ok r2.1 r4.1 r6.1 sc _ b hid hsu hsc)]
    simp only [Option.bind_some, Bool.not_true]
    unfold gatelaw2_ClaimsDelegated_J2
    rw [if_neg (by simp)]
    refine ok_bind (flip_ok h18.2 (by omega) _ (by omega)) fun r31 h31 => ok_if (fun _ => ?_) (fun _ => hJ3 _ _ _ b (h31.mono (by omega)))
    exact hJ3 _ _ _ ⟨b.id, b.subject, b.issuer, by simp, b.aud, b.sc⟩ (h31.mono (by omega))
  exact ok_if (fun _ => hJ1 _ _ _ b.sc (h10.mono (by omega))) (fun _ => hJ1 _ _ _ h8.1.2 (h10.mono (by omega)))
end Go.Proofs.YtpeeeanmfmhlgaaGreatDoor
