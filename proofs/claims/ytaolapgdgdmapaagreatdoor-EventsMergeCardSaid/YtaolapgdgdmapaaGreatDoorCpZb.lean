/- Plain: catalogs of plans: the program and the reference agree on faults, places and prices. -/
import Derived.Test.YtaolapgdgdmapaaGreatDoorVbZb
import Derived.Test.YtaolapgdgdmapaaGreatDoorRng
namespace Go.Proofs.YtaolapgdgdmapaaGreatDoor
set_option linter.unusedVariables false
set_option maxRecDepth 20000
section
variable {α : Type}
theorem at_pred {l : List α} {k : Nat} (h : 0 < k) : at? l ((k : Int) - 1) = l[k - 1]? := by
  unfold at?
  rw [if_pos (by omega)]
  congr 1
  omega
theorem forL_feE {body : Nat → α → Unit → Option (Unit ⊕ Int)} {fin : Unit → Option Int} {e : Nat → α → Int} : ∀ (l : List α) (k : Nat), (∀ j x, k ≤ j → l[j - k]? = some x → body j x () = if e j x ≠ 0 then some (.inr (e j x)) else some (.inl ())) → forL body fin k l () = if feI e k l ≠ 0 then some (feI e k l) else fin ()
  | [], k, h => by simp [forL, feI]
  | x :: l, k, h => by
    have h1 := h k x (Nat.le_refl _) (by simp)
    show (body k x ()).bind _ = _
    rw [h1]
    by_cases hp : e k x ≠ 0
    · simp [feI, hp, after]
    · simp only [feI, hp, if_false, Option.bind_some, after]
      refine forL_feE l (k + 1) fun j y hj hy => h j y (by omega) ?_
      obtain ⟨m, hm⟩ : ∃ m, j - k = m + 1 := ⟨j - k - 1, by omega⟩
      rw [hm, List.getElem?_cons_succ]
      have : j - (k + 1) = m := by omega
      rw [this] at hy; exact hy
theorem feI_zero {e : Nat → α → Int} : ∀ (l : List α) (k : Nat), feI e k l = 0 → ∀ j x, l[j]? = some x → e (k + j) x = 0
  | [], k, _, j, x, hx => by simp at hx
  | y :: l, k, h, j, x, hx => by
    simp only [feI] at h
    by_cases hp : e k y ≠ 0
    · rw [if_pos hp] at h; exact absurd h hp
    · rw [if_neg hp] at h
      cases j with
      | zero => simp at hx; subst hx; simpa using hp
      | succ j =>
        have := feI_zero l (k + 1) h j x (by simpa using hx)
        rw [show k + (j + 1) = k + 1 + j by omega]; exact this
def chR (key : α → Bs) (g : α → Bool → Int) : List α → Bs → Int
  | [], _ => 0
  | x :: l, last => if g x (leB (key x) last) ≠ 0 then g x (leB (key x) last) else chR key g l (key x)
theorem chR_ref {key : α → Bs} {g : α → Bool → Int} {body : Nat → α → Bs → Option (Bs ⊕ Int)} {fin : Bs → Option Int} {r : Option Int} (hf : ∀ s, fin s = r) : ∀ (l : List α) (k : Nat) (last : Bs), (∀ j x s, x ∈ l → body j x s = if g x (leB (key x) s) ≠ 0 then some (.inr (g x (leB (key x) s))) else some (.inl (key x))) → forL body fin k l last = if chR key g l last ≠ 0 then some (chR key g l last) else r
  | [], k, last, h => by simp [forL, chR, hf]
  | x :: l, k, last, h => by
    have h1 := h k x last (by simp)
    show (body k x last).bind _ = _
    rw [h1]
    by_cases hp : g x (leB (key x) last) ≠ 0
    · simp [chR, hp, after]
    · simp only [chR, hp, if_false, Option.bind_some, after]
      exact chR_ref hf l (k + 1) (key x) fun j y s hy => h j y s (List.mem_cons_of_mem _ hy)
def lateK (key : α → Bs) (xs : List α) (k : Nat) (x : α) : Bool := decide (0 < k) && match xs[k - 1]? with | some y => leB (key x) (key y) | none => false
theorem chR_idx {key : α → Bs} {g : α → Bool → Int} (hg : ∀ x, leB (key x) [] = false ∨ ∀ a b, g x a = g x b) (xs : List α) {body : Nat → α → Unit → Option (Unit ⊕ Int)} {fin : Unit → Option Int} {r : Option Int} (hf : fin () = r) : ∀ (l : List α) (k : Nat) (last : Bs), (k = 0 ∧ last = [] ∨ 0 < k ∧ ∃ y, xs[k - 1]? = some y ∧ last = key y) → (∀ j, l[j]? = xs[k + j]?) → (∀ j x, xs[j]? = some x → body j x () = if g x (lateK key xs j x) ≠ 0 then some (.inr (g x (lateK key xs j x))) else some (.inl ())) → forL body fin k l () = if chR key g l last ≠ 0 then some (chR key g l last) else r
  | [], k, last, _, _, h => by simp [forL, chR, hf]
  | x :: l, k, last, hk, hl, h => by
    have hx : xs[k]? = some x := by have := hl 0; simpa using this.symm
    have h1 := h k x hx
    have e : g x (lateK key xs k x) = g x (leB (key x) last) := by
      rcases hk with ⟨rfl, rfl⟩ | ⟨h0, y, hy, rfl⟩
      · have e2 : lateK key xs 0 x = false := by simp [lateK]
        rw [e2]
        rcases hg x with h3 | h3
        · rw [h3]
        · exact h3 _ _
      · have e2 : lateK key xs k x = leB (key x) (key y) := by simp [lateK, h0, hy]
        rw [e2]
    rw [e] at h1
    show (body k x ()).bind _ = _
    rw [h1]
    by_cases hp : g x (leB (key x) last) ≠ 0
    · simp [chR, hp, after]
    · simp only [chR, hp, if_false, Option.bind_some, after]
      refine chR_idx hg xs hf l (k + 1) (key x) (.inr ⟨by omega, x, by simpa using hx, rfl⟩) (fun j => ?_) h
      have := hl (j + 1)
      rw [List.getElem?_cons_succ] at this
      rw [this]; congr 1; omega
theorem chR_rise {key : α → Bs} {g : α → Bool → Int} (hg : ∀ x, g x true ≠ 0) : ∀ (l : List α) (last : Bs), chR key g l last = 0 → (RiseK key l ∧ ∀ x, x ∈ l → g x false = 0) ∧ ∀ x, x ∈ l → cmpL last (key x) < 0
  | [], last, _ => ⟨⟨List.Pairwise.nil, fun x h => by cases h⟩, fun x h => by cases h⟩
  | x :: l, last, h => by
    simp only [chR] at h
    by_cases hc : g x (leB (key x) last) ≠ 0
    · rw [if_pos hc] at h; exact absurd h hc
    · rw [if_neg hc] at h
      have hl : leB (key x) last = false := by
        cases hq : leB (key x) last
        · rfl
        · rw [hq] at hc; exact absurd (hg x) hc
      rw [hl] at hc
      have h1 := leB_cmp _ _ hl
      obtain ⟨⟨h2, h4⟩, h3⟩ := chR_rise hg l (key x) h
      refine ⟨⟨List.Pairwise.cons h3 h2, fun y hy => ?_⟩, fun y hy => ?_⟩
      · rcases List.mem_cons.1 hy with rfl | hy
        · simpa using hc
        · exact h4 y hy
      · rcases List.mem_cons.1 hy with rfl | hy
        · exact h1
        · exact cmp_trans _ _ _ h1 (h3 y hy)
end

def lateT (l : List S_api_Tier) (k : Nat) (x : S_api_Tier) : Bool := decide (0 < k) && match l[k - 1]? with | some y => decide (x.From ≤ y.From) | none => false
def t1 (l : List S_api_Tier) (k : Nat) (x : S_api_Tier) : Int := if (outP x.From 1 1000000000000 || outP x.Cents 0 1000000) = true then 1 else if lateT l k x = true then 7 else 0
def t0 (l : List S_api_Tier) : Bool := match l[0]? with | some y => decide (y.From ≠ 1) | none => false
def tsF (l : List S_api_Tier) : Int := if 20 < l.length then 2 else if feI (t1 l) 0 l ≠ 0 then feI (t1 l) 0 l else if t0 l = true then 3 else 0
theorem tJ_eq (l : List S_api_Tier) (k : Nat) (x : S_api_Tier) (hx : l[k]? = some x) (v : Bool) : portal_tiersFault_J3 l k x v = if v = true then some (.inr 1) else if lateT l k x = true then some (.inr 7) else some (.inl ()) := by
  unfold portal_tiersFault_J3 portal_tiersFault_J4
  cases v
  · simp only [Bool.false_eq_true, if_false]
    by_cases h0 : 0 < k
    · obtain ⟨y, hy⟩ : ∃ y, l[k - 1]? = some y := ⟨_, List.getElem?_eq_getElem (by have := lt_some hx; omega)⟩
      have e1 : at? l ((k : Int) - 1) = some y := by rw [at_pred h0]; exact hy
      have e2 : decide (0 < (k : Int)) = true := by simpa using h0
      have e3 : lateT l k x = decide (x.From ≤ y.From) := by simp [lateT, h0, hy]
      simp only [e2, if_true, e1, Option.bind_some, e3]
    · have e2 : decide (0 < (k : Int)) = false := by simpa using h0
      have e3 : lateT l k x = false := by simp [lateT, h0]
      rw [e2, e3]; rfl
  · simp
theorem tJ_same (p : S_api_Plan) (k : Nat) (x : S_api_Tier) (v : Bool) : gateref2_planFault_J5 p k x v = portal_tiersFault_J3 p.Tiers k x v := rfl
theorem tL_eq (l : List S_api_Tier) (k : Nat) (x : S_api_Tier) (hx : l[k]? = some x) : portal_tiersFault_L1 l k x = if t1 l k x ≠ 0 then some (.inr (t1 l k x)) else some (.inl ()) := by
  unfold portal_tiersFault_L1
  simp only [out_eq, Option.bind_some, tJ_eq l k x hx, t1]
  rcases Bool.eq_false_or_eq_true (outP x.From 1 1000000000000) with h1 | h1 <;> rcases Bool.eq_false_or_eq_true (outP x.Cents 0 1000000) with h2 | h2 <;> rcases Bool.eq_false_or_eq_true (lateT l k x) with h3 | h3 <;> simp [h1, h2, h3]
theorem tR_eq (p : S_api_Plan) (k : Nat) (x : S_api_Tier) (hx : p.Tiers[k]? = some x) : gateref2_planFault_L2 p k x = if t1 p.Tiers k x ≠ 0 then some (.inr (t1 p.Tiers k x)) else some (.inl ()) := by
  unfold gateref2_planFault_L2
  simp only [in_eq, Option.bind_some, tJ_same, tJ_eq p.Tiers k x hx, t1]
  rcases Bool.eq_false_or_eq_true (outP x.From 1 1000000000000) with h1 | h1 <;> rcases Bool.eq_false_or_eq_true (outP x.Cents 0 1000000) with h2 | h2 <;> rcases Bool.eq_false_or_eq_true (lateT p.Tiers k x) with h3 | h3 <;> simp [h1, h2, h3]
theorem tiersP_eq (l : List S_api_Tier) (h : l.length ≤ 1000000000) : m_portal_tiersFault l = some (tsF l) := by
  unfold m_portal_tiersFault tsF
  by_cases h1 : 20 < l.length
  · rw [if_pos (by simp; omega), if_pos h1]
  · rw [if_neg (by simp; omega), if_neg h1, if_pos h, forL_feE (e := t1 l) l 0 fun j x _ hx => tL_eq l j x (by simpa using hx)]
    by_cases h2 : feI (t1 l) 0 l ≠ 0
    · rw [if_pos h2, if_pos h2]
    · rw [if_neg h2, if_neg h2]
      unfold portal_tiersFault_E1 portal_tiersFault_J2 t0
      cases hl : l with
      | nil => rfl
      | cons x l' => simp; split <;> rfl
def hasP (c : S_api_Catalog) (key : Bs) : Bool := c.Products.any fun x => decide (x.Key = key)
def plF (c : S_api_Catalog) (p : S_api_Plan) : Int := if hasP c p.Product = false then 8 else if (outP p.Base 0 1000000000000 || outP p.Free 0 1000000000000) = true then 1 else if tsF p.Tiers ≠ 0 then tsF p.Tiers else if (outP p.Limit (-1) 1000000000000 || outP p.Trial 0 132) = true then 1 else 0
structure CB (c : S_api_Catalog) : Prop where
  np : c.Products.length ≤ 100000
  kp : ∀ x, x ∈ c.Products → x.Key.length ≤ 1000000 ∧ Sh x.Scopes
  nl : c.Plans.length ≤ 100000
  kl : ∀ x, x ∈ c.Plans → x.Key.length ≤ 1000000 ∧ x.Tiers.length ≤ 1000000
theorem productAt_ok (c : S_api_Catalog) (key : Bs) (hl : c.Products.length ≤ 100000) (hr : RiseK S_api_Product.Key c.Products) : Ok (m_portal_productAt c key) fun r => r.2 = hasP c key := by
  unfold m_portal_productAt
  have h := gBin_ok S_api_Product.Key c.Products key (p := fun (a0 : S_api_Product) (a1 : Bs) => m_portal_productAt_1 a0 a1) (by omega) (fun x _ => rfl) hr
  exact ok_bind (o := m_slices_BinarySearchFunc_L_api_Product_api_Product_string_ c.Products key (fun (a0 : S_api_Product) (a1 : Bs) => m_portal_productAt_1 a0 a1)) h fun r hr => ok_some hr.1
theorem prodAt_eq (c : S_api_Catalog) (key : Bs) (hl : c.Products.length ≤ 100000) : m_gateref2_ProductAt c key = some (fdx (fun x : S_api_Product => decide (x.Key = key)) 0 c.Products) := by
  unfold m_gateref2_ProductAt
  have h : m_slices_IndexFunc_L_api_Product_api_Product_ c.Products (fun (a0 : S_api_Product) => m_gateref2_ProductAt_1 a0 key) = some (fdx (fun x : S_api_Product => decide (x.Key = key)) 0 c.Products) :=
    gIdx_eq c.Products (p := fun (a0 : S_api_Product) => m_gateref2_ProductAt_1 a0 key) (fun x => decide (x.Key = key)) (by omega) fun x _ => rfl
  rw [h]; rfl
theorem planAt_eq (c : S_api_Catalog) (key : Bs) (hl : c.Plans.length ≤ 100000) : m_gateref2_PlanAt c key = some (fdx (fun x : S_api_Plan => decide (x.Key = key)) 0 c.Plans) := by
  unfold m_gateref2_PlanAt
  have h : m_slices_IndexFunc_L_api_Plan_api_Plan_ c.Plans (fun (a0 : S_api_Plan) => m_gateref2_PlanAt_1 a0 key) = some (fdx (fun x : S_api_Plan => decide (x.Key = key)) 0 c.Plans) :=
    gIdx_eq c.Plans (p := fun (a0 : S_api_Plan) => m_gateref2_PlanAt_1 a0 key) (fun x => decide (x.Key = key)) (by omega) fun x _ => rfl
  rw [h]; rfl
theorem plJ_eq (c : S_api_Catalog) (p : S_api_Plan) (hl : c.Products.length ≤ 100000) (hr : RiseK S_api_Product.Key c.Products) (ht : p.Tiers.length ≤ 1000000) (late : Bool) : portal_planFault_J1 c p late = some (if late = true then 7 else plF c p) := by
  unfold portal_planFault_J1
  cases late
  · obtain ⟨r, h1, h2⟩ := productAt_ok c p.Product hl hr
    simp only [Bool.false_eq_true, if_false, h1, Option.bind_some, h2, plF, out_eq, portal_planFault_J2, portal_planFault_J3, tiersP_eq p.Tiers (by omega)]
    cases hasP c p.Product
    · rfl
    · cases outP p.Base 0 1000000000000 <;> cases outP p.Free 0 1000000000000 <;> by_cases h3 : tsF p.Tiers = 0 <;> cases outP p.Limit (-1) 1000000000000 <;> cases outP p.Trial 0 132 <;> simp [h3]
  · simp
theorem plR_eq (c : S_api_Catalog) (p : S_api_Plan) (hl : c.Products.length ≤ 100000) (ht : p.Tiers.length ≤ 1000000) : m_gateref2_planFault c p = some (plF c p) := by
  unfold m_gateref2_planFault
  rw [prodAt_eq c _ hl]
  have hT : gateref2_planFault_J1 p false = some (if tsF p.Tiers ≠ 0 then tsF p.Tiers else if (outP p.Limit (-1) 1000000000000 || outP p.Trial 0 132) = true then 1 else 0) := by
    unfold gateref2_planFault_J1 tsF
    simp only [Bool.false_eq_true, if_false]
    by_cases h1 : 20 < p.Tiers.length
    · rw [if_pos (by simp; omega), if_pos h1]; rfl
    · rw [if_neg (by simp; omega), if_neg h1, if_pos (by omega), forL_feE (e := t1 p.Tiers) p.Tiers 0 fun j x _ hx => tR_eq p j x (by simpa using hx)]
      by_cases h2 : feI (t1 p.Tiers) 0 p.Tiers ≠ 0
      · rw [if_pos h2, if_pos h2, if_pos h2]
      · rw [if_neg h2, if_neg h2]
        have e1 : gateref2_planFault_E2 p = gateref2_planFault_J3 p (t0 p.Tiers) := by
          unfold gateref2_planFault_E2 t0
          cases hq : p.Tiers with
          | nil => rfl
          | cons x l' => rw [if_pos (by simp)]; rfl
        rw [e1]
        unfold gateref2_planFault_J3 gateref2_planFault_J4
        simp only [in_eq, Option.bind_some]
        cases t0 p.Tiers <;> cases outP p.Limit (-1) 1000000000000 <;> cases outP p.Trial 0 132 <;> rfl
  simp only [Option.bind_some, fdx_neg, in_eq, plF]
  show (if (!hasP c p.Product) = true then _ else _) = _
  cases hasP c p.Product
  · rfl
  · cases outP p.Base 0 1000000000000 <;> cases outP p.Free 0 1000000000000 <;> simp only [Bool.not_false, Bool.not_true, Bool.false_eq_true, if_false, if_true, Bool.or_false, Bool.or_true, reduceCtorEq, hT] <;> first | rfl | simp [gateref2_planFault_J1]
def gP (p : S_api_Product) (late : Bool) : Int := if keyP p.Key = false then 5 else if late = true then 7 else scF p.Scopes
def gL (c : S_api_Catalog) (p : S_api_Plan) (late : Bool) : Int := if keyP p.Key = false then 5 else if late = true then 7 else plF c p
def pdF (l : List S_api_Product) : Int := if 100 < l.length then 2 else chR S_api_Product.Key gP l []
def catF (c : S_api_Catalog) : Int := if pdF c.Products ≠ 0 then pdF c.Products else if 100 < c.Plans.length then 2 else chR S_api_Plan.Key (gL c) c.Plans []
theorem gP_true (x : S_api_Product) : gP x true ≠ 0 := by unfold gP; split <;> simp
theorem gL_true (c : S_api_Catalog) (x : S_api_Plan) : gL c x true ≠ 0 := by unfold gL; split <;> simp
theorem gP_first (x : S_api_Product) : leB x.Key [] = false ∨ ∀ a b, gP x a = gP x b := by
  cases hk : keyP x.Key
  · exact .inr fun a b => by simp [gP, hk]
  · exact .inl (leB_nil hk)
theorem gL_first (c : S_api_Catalog) (x : S_api_Plan) : leB x.Key [] = false ∨ ∀ a b, gL c x a = gL c x b := by
  cases hk : keyP x.Key
  · exact .inr fun a b => by simp [gL, hk]
  · exact .inl (leB_nil hk)
theorem pdF_rise {l : List S_api_Product} (h : pdF l = 0) : RiseK S_api_Product.Key l := by
  unfold pdF at h
  split at h
  · omega
  · exact (chR_rise gP_true l [] h).1.1
theorem chkCat_eq (c : S_api_Catalog) (hb : CB c) : m_portal_CheckCatalog c = some (catF c) := by
  have h1 : m_portal_productsFault c.Products = some (pdF c.Products) := by
    have hn := hb.np
    unfold m_portal_productsFault pdF
    by_cases h1 : 100 < c.Products.length
    · rw [if_pos (by simp; omega), if_pos h1]
    · rw [if_neg (by simp; omega), if_neg h1, if_pos (by omega)]
      rw [chR_idx (key := S_api_Product.Key) (g := gP) gP_first c.Products (r := some 0) rfl c.Products 0 [] (.inl ⟨rfl, rfl⟩) (fun j => by simp) fun j x hx => ?_]
      · split
        · rfl
        · next h => have : chR S_api_Product.Key gP c.Products [] = 0 := by simpa using h
                    rw [this]
      · obtain ⟨k1, k2⟩ := hb.kp x (List.mem_of_getElem? hx)
        have hJ : ∀ v, portal_productsFault_J2 x v = if (if v = true then (7 : Int) else scF x.Scopes) ≠ 0 then some (.inr (if v = true then (7 : Int) else scF x.Scopes)) else some (.inl ()) := by
          intro v
          unfold portal_productsFault_J2
          cases v
          · simp only [Bool.false_eq_true, if_false, chkC_eq _ k2, Option.bind_some]
            by_cases hq : scF x.Scopes = 0 <;> simp [hq]
          · simp
        unfold portal_productsFault_L1
        simp only [isKey_eq _ (show x.Key.length ≤ 1000000000 by omega), Option.bind_some, hJ]
        unfold gP
        cases hk : keyP x.Key
        · simp
        · simp only [Bool.not_true, Bool.false_eq_true, if_false, reduceCtorEq]
          by_cases h0 : 0 < j
          · obtain ⟨y, hy⟩ : ∃ y, c.Products[j - 1]? = some y := ⟨_, List.getElem?_eq_getElem (by have := lt_some hx; omega)⟩
            have e1 : at? c.Products ((j : Int) - 1) = some y := by rw [at_pred h0]; exact hy
            have e2 : decide (0 < (j : Int)) = true := by simpa using h0
            have e3 : lateK S_api_Product.Key c.Products j x = leB x.Key y.Key := by simp [lateK, h0, hy]
            simp only [e2, if_true, e1, Option.bind_some, e3]
            rfl
          · have e2 : decide (0 < (j : Int)) = false := by simpa using h0
            have e3 : lateK S_api_Product.Key c.Products j x = false := by simp [lateK, h0]
            rw [e2, e3]; rfl
  unfold m_portal_CheckCatalog catF
  rw [h1]
  simp only [Option.bind_some]
  by_cases h2 : pdF c.Products ≠ 0
  · rw [if_pos (by simpa using h2), if_pos h2]
  · rw [if_neg (by simpa using h2), if_neg h2]
    have hr := pdF_rise (by simpa using h2 : pdF c.Products = 0)
    have hn := hb.nl
    by_cases h3 : 100 < c.Plans.length
    · rw [if_pos (by simp; omega), if_pos h3]
    · rw [if_neg (by simp; omega), if_neg h3, if_pos (by omega)]
      rw [chR_idx (key := S_api_Plan.Key) (g := gL c) (gL_first c) c.Plans (r := some 0) rfl c.Plans 0 [] (.inl ⟨rfl, rfl⟩) (fun j => by simp) fun j x hx => ?_]
      · split
        · rfl
        · next h => have : chR S_api_Plan.Key (gL c) c.Plans [] = 0 := by simpa using h
                    rw [this]
      · obtain ⟨k1, k2⟩ := hb.kl x (List.mem_of_getElem? hx)
        have e0 : m_portal_planFault c (j : Int) = some (gL c x (lateK S_api_Plan.Key c.Plans j x)) := by
          unfold m_portal_planFault
          rw [at_nat, hx]
          simp only [isKey_eq _ (show x.Key.length ≤ 1000000000 by omega), Option.bind_some, plJ_eq c x hb.np hr k2]
          unfold gL
          cases hk : keyP x.Key
          · simp
          · simp only [Bool.not_true, Bool.false_eq_true, if_false, reduceCtorEq]
            by_cases h0 : 0 < j
            · obtain ⟨y, hy⟩ : ∃ y, c.Plans[j - 1]? = some y := ⟨_, List.getElem?_eq_getElem (by have := lt_some hx; omega)⟩
              have e1 : at? c.Plans (wr ((j : Int) - 1)) = some y := by
                rw [wr_id (by have := lt_some hx; omega), at_pred h0]; exact hy
              have e2 : decide (0 < (j : Int)) = true := by simpa using h0
              have e3 : lateK S_api_Plan.Key c.Plans j x = leB x.Key y.Key := by simp [lateK, h0, hy]
              simp only [e2, if_true, e1, Option.bind_some, e3]
              rfl
            · have e2 : decide (0 < (j : Int)) = false := by simpa using h0
              have e3 : lateK S_api_Plan.Key c.Plans j x = false := by simp [lateK, h0]
              rw [e2, e3]; rfl
        unfold portal_CheckCatalog_L1
        rw [e0]
        simp only [Option.bind_some]
        by_cases hq : gL c x (lateK S_api_Plan.Key c.Plans j x) = 0 <;> simp [hq]
theorem catFault_eq (c : S_api_Catalog) (hb : CB c) : m_gateref2_CatalogFault c = some (catF c) := by
  have hn := hb.np
  have hm := hb.nl
  unfold m_gateref2_CatalogFault catF pdF
  by_cases h1 : 100 < c.Products.length
  · rw [if_pos (by simp; omega), if_pos h1, if_pos (by decide)]
  · rw [if_neg (by simp; omega), if_neg h1, if_pos (by omega)]
    rw [chR_ref (key := S_api_Product.Key) (g := gP) (fin := fun s => gateref2_CatalogFault_E1 c s) (r := gateref2_CatalogFault_E1 c []) (fun s => rfl) c.Products 0 [] fun j x s hx => ?_]
    · by_cases h2 : chR S_api_Product.Key gP c.Products [] ≠ 0
      · rw [if_pos h2, if_pos h2]
      · rw [if_neg h2, if_neg h2]
        unfold gateref2_CatalogFault_E1
        by_cases h3 : 100 < c.Plans.length
        · rw [if_pos (by simp; omega), if_pos h3]
        · rw [if_neg (by simp; omega), if_neg h3, if_pos (by omega)]
          rw [chR_ref (key := S_api_Plan.Key) (g := gL c) (fin := fun s => gateref2_CatalogFault_E2 s) (r := some 0) (fun s => rfl) c.Plans 0 [] fun j x s hx => ?_]
          · split
            · rfl
            · next h => have : chR S_api_Plan.Key (gL c) c.Plans [] = 0 := by simpa using h
                        rw [this]
          · obtain ⟨k1, k2⟩ := hb.kl x hx
            unfold gateref2_CatalogFault_L2
            simp only [key_eq _ (show x.Key.length ≤ 1000000000 by omega), plR_eq c x hn k2, Option.bind_some]
            show (if (!keyP x.Key) = true then _ else if leB x.Key s = true then _ else _) = _
            unfold gL
            cases keyP x.Key <;> cases leB x.Key s <;> by_cases hq : plF c x = 0 <;> simp [hq]
    · obtain ⟨k1, k2⟩ := hb.kp x hx
      unfold gateref2_CatalogFault_L1
      simp only [key_eq _ (show x.Key.length ≤ 1000000000 by omega), faultC_eq _ k2, Option.bind_some]
      show (if (!keyP x.Key) = true then _ else if leB x.Key s = true then _ else _) = _
      unfold gP
      cases keyP x.Key <;> cases leB x.Key s <;> by_cases hq : scF x.Scopes = 0 <;> simp [hq]
end Go.Proofs.YtaolapgdgdmapaaGreatDoor
