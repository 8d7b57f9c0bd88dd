/- Plain: the law MessagesWritten is true for every list of numbers. -/
import Derived.Test.YtodipncpfipjnaaGreatDoorMiYv
import Derived.Test.YtodipncpfipjnaaGreatDoorNmYv
import Derived.Lib.ItoaLen
namespace Go.Proofs.YtodipncpfipjnaaGreatDoor
set_option linter.unusedVariables false
set_option maxRecDepth 20000
abbrev cl_ : Bs := [99, 111, 110, 116, 101, 110, 116, 45, 108, 101, 110, 103, 116, 104]
abbrev te_ : Bs := [116, 114, 97, 110, 115, 102, 101, 114, 45, 101, 110, 99, 111, 100, 105, 110, 103]
abbrev ho_ : Bs := [104, 111, 115, 116]
def lnB (h : S_api_Header) : Bs := ((h.Name ++ [58, 32]) ++ h.Value) ++ [13, 10]
def frB (h : S_api_Header) : Bool := nmB cl_ h || nmB te_ h
def lnF (q : S_api_Header → Bool) (l : List S_api_Header) : Bs := l.flatMap fun h => if q h then [] else lnB h
theorem framing_eq (h : S_api_Header) (h1 : nmOK h) : m_message_isFraming h = some (frB h) := by
  unfold m_message_isFraming message_isFraming_J1 frB
  rw [named_eq h _ h1 (by decide), named_eq h _ h1 (by decide)]
  simp only [Option.bind_some]
  cases nmB cl_ h <;> rfl
theorem wstr (x s : Bs) (h : x.length + s.length ≤ 1000000000) : m_strings_Builder_WriteString (numsB x) s = some ((s.length : Int), 0, numsB (x ++ s)) := by
  unfold m_strings_Builder_WriteString
  rw [if_pos (by rw [nums_len]; exact h), nums_app]
def smH (h : S_api_Header) : Prop := ascB h.Name = true ∧ h.Name.length ≤ 100 ∧ h.Value.length ≤ 2000
theorem smH_ok {h : S_api_Header} (h1 : smH h) : nmOK h := ⟨h1.1, by have := h1.2.1; omega⟩
theorem lnP : ∀ (l : List S_api_Header) (k : Nat) (x : Bs), (∀ h, h ∈ l → smH h) → x.length + 3000 * l.length ≤ 900000000 →
    forL (fun (k : Nat) (x : S_api_Header) (s : (List Int)) => message_headerLines_L1 k x s) (fun (s : (List Int)) => message_headerLines_E1 s) k l (numsB x) = some (numsB (x ++ lnF frB l))
  | [], k, x, _, _ => by
    show message_headerLines_E1 (numsB x) = _
    unfold message_headerLines_E1
    simp [lnF]
  | h :: l, k, x, hs, hx => by
    have h1 := hs h (by simp)
    have h2 := h1.2
    simp only [List.length_cons] at hx
    show (message_headerLines_L1 k h (numsB x)).bind _ = _
    have e : message_headerLines_L1 k h (numsB x) = some (.inl (numsB (x ++ if frB h then [] else lnB h))) := by
      unfold message_headerLines_L1 message_headerLines_J2
      rw [framing_eq h (smH_ok h1)]
      simp only [Option.bind_some]
      cases frB h
      · simp only [Bool.not_false, if_true, Bool.false_eq_true, if_false]
        rw [if_pos (by simp; omega), if_pos (by simp; omega), if_pos (by simp; omega), wstr _ _ (by simp; omega)]
        rfl
      · simp
    rw [e]
    simp only [Option.bind_some, after]
    have hln : (if frB h = true then [] else lnB h).length ≤ 2104 := by
      split
      · simp
      · unfold lnB; simp; omega
    rw [lnP l (k + 1) _ (fun y hy => hs y (by simp [hy])) (by rw [List.length_append]; omega)]
    simp [lnF]
theorem lines_eq (l : List S_api_Header) (x : Bs) (hl : l.length ≤ 1000) (hs : ∀ h, h ∈ l → smH h) (hx : x.length ≤ 1000000) : m_message_headerLines (numsB x) l = some (numsB (x ++ lnF frB l)) := by
  unfold m_message_headerLines
  rw [if_pos (by omega)]
  exact lnP l 0 x hs (by omega)
theorem lnF_filter (q p : S_api_Header → Bool) : ∀ l : List S_api_Header, lnF q (l.filter fun x => !p x) = lnF (fun h => p h || q h) l
  | [] => rfl
  | h :: l => by
    have ih := lnF_filter q p l
    rw [List.filter_cons]
    unfold lnF at ih ⊢
    cases hp : p h
    · simp [hp, ih]
    · simp [hp, ih]
theorem lnF_len (q : S_api_Header → Bool) : ∀ l : List S_api_Header, (∀ h, h ∈ l → smH h) → (lnF q l).length ≤ 3000 * l.length
  | [], _ => by simp [lnF]
  | h :: l, hs => by
    have ih := lnF_len q l fun y hy => hs y (by simp [hy])
    have h2 := (hs h (by simp)).2
    unfold lnF at ih ⊢
    rw [List.flatMap_cons, List.length_append, List.length_cons]
    have hln : (if q h = true then [] else lnB h).length ≤ 2104 := by
      split
      · simp
      · unfold lnB; simp; omega
    omega
/-- the reference -/
def owB (req : Bool) (h : S_api_Header) : Bool := (req && nmB ho_ h) || frB h
theorem own_eq (h : S_api_Header) (req : Bool) (h1 : nmOK h) : m_gateref2_own h.Name req = some (owB req h) := by
  have ha : ∀ n : Bs, (ascB n = true ∧ n.length ≤ 100000) → m_gateref2_alike h.Name n = some (nmB n h) := fun n hn => alike_eq h.Name n h1 hn
  unfold m_gateref2_own gateref2_own_J1 owB frB
  rw [ha _ (by decide), ha _ (by decide), ha _ (by decide)]
  simp only [Option.bind_some]
  cases req
  · simp only [Bool.false_eq_true, if_false, Bool.false_and, Bool.false_or]
    cases nmB cl_ h <;> rfl
  · simp only [if_true, Bool.true_and]
    cases nmB ho_ h
    · cases nmB cl_ h <;> rfl
    · rfl
theorem tlR (E : Bs → Option Bs) (req : Bool) : ∀ (l : List S_api_Header) (k : Nat) (x : Bs), (∀ h, h ∈ l → smH h) → x.length + 3000 * l.length ≤ 900000000 →
    forL (fun (k : Nat) (x : S_api_Header) (s : Bs) => gateref2_tail_L1 req k x s) E k l x = E (x ++ lnF (owB req) l)
  | [], k, x, _, _ => by simp [forL, lnF]
  | h :: l, k, x, hs, hx => by
    have h1 := hs h (by simp)
    have h2 := h1.2
    simp only [List.length_cons] at hx
    show (gateref2_tail_L1 req k h x).bind _ = _
    have e : gateref2_tail_L1 req k h x = some (.inl (x ++ if owB req h then [] else lnB h)) := by
      unfold gateref2_tail_L1 gateref2_tail_J3
      rw [own_eq h req (smH_ok h1)]
      simp only [Option.bind_some]
      cases owB req h
      · simp only [Bool.not_false, if_true, Bool.false_eq_true, if_false]
        rw [if_pos (by simp; omega), if_pos (by simp; omega), if_pos (by simp; omega), if_pos (by simp; omega)]
        rfl
      · simp
    rw [e]
    simp only [Option.bind_some, after]
    have hln : (if owB req h = true then [] else lnB h).length ≤ 2104 := by
      split
      · simp
      · unfold lnB; simp; omega
    rw [tlR E req l (k + 1) _ (fun y hy => hs y (by simp [hy])) (by rw [List.length_append]; omega)]
    simp [lnF]
abbrev clL (n : Nat) : Bs := ([99, 111, 110, 116, 101, 110, 116, 45, 108, 101, 110, 103, 116, 104, 58, 32] ++ Lib.itoa (n : Int)) ++ [13, 10]
theorem itoa_eq (n : Int) (h : 0 ≤ n ∧ n ≤ 1000000) : m_strconv_Itoa n = some (Lib.itoa n) ∧ (Lib.itoa n).length ≤ 21 := by
  unfold m_strconv_Itoa
  rw [if_pos (by omega)]
  exact ⟨rfl, Lib.itoa_length_le n (by omega) (by omega)⟩
theorem tail_eq (l : List S_api_Header) (b : Bs) (req : Bool) (hl : l.length ≤ 1000) (hs : ∀ h, h ∈ l → smH h) (hb : b.length ≤ 20000) :
    m_gateref2_tail l b req = some (lnF (owB req) l ++ (if decide (b ≠ []) || !req then clL b.length else []) ++ ([13, 10] ++ b)) := by
  have h1 := lnF_len (owB req) l hs
  obtain ⟨i1, i2⟩ := itoa_eq (b.length : Int) (by omega)
  unfold m_gateref2_tail
  rw [if_pos (by omega), tlR _ req l 0 [] hs (by simp; omega)]
  show gateref2_tail_E1 b req (lnF (owB req) l) = _
  unfold gateref2_tail_E1 gateref2_tail_J2
  rw [i1]
  simp only [Option.bind_some]
  by_cases h : (decide (b ≠ []) || !req) = true
  · rw [if_pos h, if_pos h, if_pos (by simp; omega), if_pos (by simp; omega), if_pos (by simp; omega), if_pos (by simp; omega), if_pos (by simp; omega)]
    simp
  · rw [if_neg h, if_neg h, if_pos (by simp; omega), if_pos (by simp; omega)]
    simp
def rqOK (r : S_api_Request) : Prop := r.Method.length ≤ 100 ∧ r.Host.length ≤ 1000 ∧ r.Path.length ≤ 1000 ∧ r.Query.length ≤ 1000 ∧ r.Headers.length ≤ 50 ∧ (∀ h, h ∈ r.Headers → smH h) ∧ r.Body.length ≤ 20000
theorem write_req (r : S_api_Request) (h : rqOK r) (hc : m_message_CheckRequest r = some 0) : ∃ t, m_message_WriteRequest r = some (t, 0) ∧ m_gateref2_RequestBytes r = some t := by
  obtain ⟨h1, h2, h3, h4, h5, h6, h7⟩ := h
  obtain ⟨i1, i2⟩ := itoa_eq (r.Body.length : Int) (by omega)
  have hf : ∀ x, x ∈ r.Headers → nmOK x := fun x hx => smH_ok (h6 x hx)
  have hw := without_eq r.Headers ho_ (by omega) hf (by decide)
  have hfs : ∀ x, x ∈ (r.Headers.filter fun x => !nmB ho_ x) → smH x := fun x hx => h6 x (List.mem_filter.1 hx).1
  have hfl : (r.Headers.filter fun x => !nmB ho_ x).length ≤ 1000 := Nat.le_trans (List.length_filter_le _ _) (by omega)
  have hL := lnF_len frB _ hfs
  have hT := tail_eq r.Headers r.Body true (by omega) h6 h7
  have hTl := lnF_len (owB true) r.Headers h6
  have hfe : lnF frB (r.Headers.filter fun x => !nmB ho_ x) = lnF (owB true) r.Headers := by
    rw [lnF_filter]; rfl
  have hbl : (if decide (r.Body ≠ []) || !true then clL r.Body.length else []).length ≤ 60 := by
    by_cases hb : r.Body = []
    · rw [if_neg (by simpa using hb)]; simp
    · rw [if_pos (by simpa using hb)]
      simp only [List.length_append, List.length_cons, List.length_nil]
      omega
  have hJ1 : ∀ x : Bs, x.length ≤ 3000 → message_WriteRequest_J1 r (numsB x) = some (x ++ (([32, 72, 84, 84, 80, 47, 49, 46, 49, 13, 10, 104, 111, 115, 116, 58, 32] ++ r.Host) ++ [13, 10]) ++ lnF (owB true) r.Headers ++ (if decide (r.Body ≠ []) || !true then clL r.Body.length else []) ++ ([13, 10] ++ r.Body), 0) := by
    intro x hx
    unfold message_WriteRequest_J1
    rw [if_pos (by simp; omega), if_pos (by simp; omega), wstr _ _ (by simp; omega)]
    simp only [Option.bind_some]
    rw [hw]
    simp only [Option.bind_some]
    rw [lines_eq _ _ hfl hfs (by simp; omega), hfe]
    simp only [Option.bind_some]
    rw [hfe] at hL
    have hJ2 : ∀ y : Bs, y.length ≤ 900000 → message_WriteRequest_J2 r (numsB y) = some (y ++ ([13, 10] ++ r.Body), 0) := by
      intro y hy
      unfold message_WriteRequest_J2
      rw [if_pos (by simp; omega), wstr _ _ (by simp; omega)]
      simp only [Option.bind_some]
      rw [if_pos (byR_nums _), strN_nums']
    rw [i1]
    simp only [Option.bind_some]
    by_cases hb : r.Body = []
    · rw [if_neg (by simpa using hb), hJ2 _ (by simp; omega), if_neg (by simpa using hb)]
      simp
    · rw [if_pos (by simpa using hb), if_pos (by simp; omega), if_pos (by simp; omega), wstr _ _ (by simp; omega)]
      simp only [Option.bind_some]
      rw [hJ2 _ (by simp; omega), if_pos (by simpa using hb)]
  have hR1 : ∀ tg : Bs, tg.length ≤ 2100 → gateref2_RequestBytes_J1 r tg = some (((((((r.Method ++ [32]) ++ tg) ++ [32, 72, 84, 84, 80, 47, 49, 46, 49]) ++ [13, 10]) ++ [104, 111, 115, 116, 58, 32]) ++ r.Host) ++ [13, 10] ++ (lnF (owB true) r.Headers ++ (if decide (r.Body ≠ []) || !true then clL r.Body.length else []) ++ ([13, 10] ++ r.Body))) := by
    intro tg htg
    unfold gateref2_RequestBytes_J1
    rw [hT]
    simp only [Option.bind_some]
    rw [if_pos (by simp; omega), if_pos (by simp; omega), if_pos (by simp; omega), if_pos (by simp; omega), if_pos (by simp; omega), if_pos (by simp; omega), if_pos (by simp; omega), if_pos (by simp only [List.length_append, List.length_cons, List.length_nil] at hbl ⊢; omega)]
  have e0 : m_strings_Builder_WriteString ([] : List Int) ((r.Method ++ [32]) ++ r.Path) = some ((((r.Method ++ [32]) ++ r.Path).length : Int), 0, numsB ((r.Method ++ [32]) ++ r.Path)) := wstr [] _ (by simp; omega)
  generalize hcb : (if decide (r.Body ≠ []) || !true then clL r.Body.length else []) = cb at *
  have eP : m_message_WriteRequest r = if decide (r.Query ≠ []) then message_WriteRequest_J1 r (numsB (((r.Method ++ [32]) ++ r.Path) ++ ([63] ++ r.Query))) else message_WriteRequest_J1 r (numsB ((r.Method ++ [32]) ++ r.Path)) := by
    unfold m_message_WriteRequest
    rw [hc]
    simp only [Option.bind_some]
    rw [if_neg (by simp), if_pos (by simp; omega), if_pos (by simp; omega), e0]
    simp only [Option.bind_some]
    rw [if_pos (c := [63].length + r.Query.length ≤ 1000000000) (by simp; omega), wstr _ _ (by simp; omega)]
    rfl
  have eR : m_gateref2_RequestBytes r = if decide (r.Query ≠ []) then gateref2_RequestBytes_J1 r (r.Path ++ ([63] ++ r.Query)) else gateref2_RequestBytes_J1 r r.Path := by
    unfold m_gateref2_RequestBytes
    rw [if_pos (c := [63].length + r.Query.length ≤ 1000000000) (by simp; omega), if_pos (c := r.Path.length + (([63] : Bs) ++ r.Query).length ≤ 1000000000) (by simp; omega)]
  rw [eP, eR]
  by_cases hq : r.Query = []
  · have h0 : decide (r.Query ≠ []) = false := by simpa using hq
    rw [h0]
    simp only [Bool.false_eq_true, if_false]
    rw [hJ1 _ (by simp; omega), hR1 _ (by omega)]
    exact ⟨_, rfl, by simp⟩
  · have h0 : decide (r.Query ≠ []) = true := by simpa using hq
    rw [h0]
    simp only [if_true]
    rw [hJ1 _ (by simp; omega), hR1 _ (by simp; omega)]
    exact ⟨_, rfl, by simp⟩
theorem write_resp (a : S_api_Response) (hl : a.Headers.length ≤ 50) (hs : ∀ h, h ∈ a.Headers → smH h) (hb : a.Body.length ≤ 20000) (hst : 0 ≤ a.Status ∧ a.Status ≤ 1000) (hc : m_message_CheckResponse a = some 0) : ∃ t, m_message_WriteResponse a = some (t, 0) ∧ m_gateref2_ResponseBytes a = some t := by
  obtain ⟨i1, i2⟩ := itoa_eq (a.Body.length : Int) (by omega)
  obtain ⟨j1, j2⟩ := itoa_eq a.Status (by omega)
  have hL := lnF_len frB _ hs
  have hT := tail_eq a.Headers a.Body false (by omega) hs hb
  have hfe : lnF (owB false) a.Headers = lnF frB a.Headers := by
    unfold lnF owB
    simp
  rw [hfe] at hT
  have hbl : (if decide (a.Body ≠ []) || !false then clL a.Body.length else []) = clL a.Body.length := by simp
  rw [hbl] at hT
  have key : ∀ rs : Bs, rs.length ≤ 2 → ∃ t, message_WriteResponse_J1 a rs = some (t, 0) ∧ gateref2_ResponseBytes_J1 a rs = some t := by
    intro rs hrs
    unfold message_WriteResponse_J1 gateref2_ResponseBytes_J1
    rw [j1, i1, hT]
    simp only [Option.bind_some]
    have e0 : m_strings_Builder_WriteString ([] : List Int) (((([72, 84, 84, 80, 47, 49, 46, 49, 32] ++ Lib.itoa a.Status) ++ [32]) ++ rs) ++ [13, 10]) = some (((((([72, 84, 84, 80, 47, 49, 46, 49, 32] ++ Lib.itoa a.Status) ++ [32]) ++ rs) ++ [13, 10]).length : Int), 0, numsB (((([72, 84, 84, 80, 47, 49, 46, 49, 32] ++ Lib.itoa a.Status) ++ [32]) ++ rs) ++ [13, 10])) := wstr [] _ (by simp; omega)
    rw [if_pos (by simp; omega), if_pos (by simp; omega), if_pos (by simp; omega), if_pos (by simp; omega), e0]
    simp only [Option.bind_some]
    rw [lines_eq _ _ (by omega) hs (by simp; omega)]
    simp only [Option.bind_some]
    rw [if_pos (by simp; omega), if_pos (by simp; omega), if_pos (by simp; omega), if_pos (by simp; omega), wstr _ _ (by simp; omega)]
    simp only [Option.bind_some]
    rw [if_pos (byR_nums _), strN_nums', if_pos (by simp; omega), if_pos (by simp; omega), if_pos (by simp; omega), if_pos (by simp; omega), if_pos (by simp; omega)]
    exact ⟨_, rfl, by simp⟩
  unfold m_message_WriteResponse m_gateref2_ResponseBytes
  rw [hc]
  simp only [Option.bind_some]
  rw [if_neg (by simp)]
  split
  · exact key _ (by simp)
  · exact key _ (by simp)
theorem request_same (r : S_api_Request) (h : rqP r) : Ok (m_message_CheckRequest r) fun e => m_gateref2_RequestFault r = some e := by
  obtain ⟨p1, p2, p3, p4, p5, p6⟩ := h
  obtain ⟨b, q, e1, e2, e3⟩ := host_same p2
  have hh := headers_eq r.Headers p6
  unfold m_message_CheckRequest m_gateref2_RequestFault message_CheckRequest_J1 gateref2_RequestFault_J1
  rw [isMoment_eq, moment_eq, isToken_eq _ (by omega), token_eq _ (by omega), e1, e2, pathFault_eq _ (by omega), pathForm_eq _ (by omega), queryFault_eq _ (by omega), queryForm_eq _ (by omega), field_eq, isField_eq _ (by omega), hh.1, hh.2]
  simp only [Option.bind_some, e3]
  cases momP r.At
  · exact ok_some rfl
  · cases tokB r.Method
    · exact ok_some rfl
    · cases b
      · exact ok_some rfl
      · cases pthB r.Path
        · exact ok_some rfl
        · cases qryB r.Query
          · exact ok_some rfl
          · cases fldB r.From
            · exact ok_some rfl
            · simp only [if_true, Bool.not_true, Bool.false_eq_true, if_false, ne_eq, not_true_eq_false, decide_false]
              split
              · exact ok_some rfl
              · split <;> exact ok_some rfl
theorem response_same (r : S_api_Response) (h : hdsP r.Headers) : Ok (m_message_CheckResponse r) fun e => m_gateref2_ResponseFault r = some e := by
  have hh := headers_eq r.Headers h
  unfold m_message_CheckResponse m_gateref2_ResponseFault
  rw [out_eq, in_eq, hh.1, hh.2]
  simp only [Option.bind_some, Bool.not_not]
  split
  · exact ok_some rfl
  · split
    · exact ok_some rfl
    · split <;> exact ok_some rfl
theorem request_w (r : S_api_Request) (h : rqP r) : ∃ e, m_gateref2_RequestFault r = some e ∧ (e ≠ 0 → m_message_WriteRequest r = some ([], e)) ∧ (e = 0 → ∃ t, m_message_WriteRequest r = some (t, 0) ∧ m_gateref2_RequestBytes r = some t) := by
  obtain ⟨e, he1, he2⟩ := request_same r h
  refine ⟨e, he2, fun hne => ?_, fun h0 => ?_⟩
  · unfold m_message_WriteRequest
    rw [he1]
    simp only [Option.bind_some]
    rw [if_pos (by simpa using hne)]
  · subst h0
    refine write_req r ?_ he1
    obtain ⟨p1, p2, p3, p4, p5, p6⟩ := h
    obtain ⟨b, q, e1, e2, e3⟩ := host_same p2
    have hh := headers_eq r.Headers p6
    unfold m_message_CheckRequest message_CheckRequest_J1 at he1
    rw [isMoment_eq, isToken_eq _ (by omega), e1, pathFault_eq _ (by omega), queryFault_eq _ (by omega), isField_eq _ (by omega), hh.1] at he1
    simp only [Option.bind_some] at he1
    cases hm : momP r.At
    · rw [hm] at he1; cases he1
    cases ht : tokB r.Method
    · rw [hm, ht] at he1; cases he1
    cases b
    · rw [hm, ht] at he1; cases he1
    cases hp : pthB r.Path
    · rw [hm, ht, hp] at he1; cases he1
    cases hq : qryB r.Query
    · rw [hm, ht, hp, hq] at he1; cases he1
    cases hf : fldB r.From
    · rw [hm, ht, hp, hq, hf] at he1; cases he1
    rw [hm, ht, hp, hq, hf] at he1
    simp only [if_true, Bool.not_true, Bool.false_eq_true, if_false, ne_eq, not_true_eq_false, decide_false] at he1
    have hE : hdsE r.Headers = 0 := by
      split at he1
      · rename_i h1
        have := Option.some.inj he1
        exact this
      · rename_i h1
        exact Classical.byContradiction fun h2 => h1 (by simpa using h2)
    have hB : r.Body.length ≤ 20000 := by
      rw [if_neg (by simpa using hE)] at he1
      split at he1
      · cases he1
      · rename_i h1
        simp at h1; omega
    have hhl := of_decide_eq_true (List.all_eq_true.1 hosts_len r.Host p2)
    have hpl : r.Path.length ≤ 1000 := by
      unfold pthB at hp
      simp only [Bool.and_eq_true, decide_eq_true_eq] at hp
      omega
    have hql : r.Query.length ≤ 1000 := by
      unfold qryB at hq
      simp only [Bool.and_eq_true, decide_eq_true_eq] at hq
      omega
    refine ⟨tok_len ht, hhl, hpl, hql, hds_cnt hE, fun x hx => ?_, hB⟩
    have := hds_ok hE x hx
    exact ⟨tok_asc this.1, tok_len this.1, fld_len this.2⟩
theorem response_w (a : S_api_Response) (h : hdsP a.Headers) : ∃ e, m_gateref2_ResponseFault a = some e ∧ (e ≠ 0 → m_message_WriteResponse a = some ([], e)) ∧ (e = 0 → ∃ t, m_message_WriteResponse a = some (t, 0) ∧ m_gateref2_ResponseBytes a = some t) := by
  obtain ⟨e, he1, he2⟩ := response_same a h
  refine ⟨e, he2, fun hne => ?_, fun h0 => ?_⟩
  · unfold m_message_WriteResponse
    rw [he1]
    simp only [Option.bind_some]
    rw [if_pos (by simpa using hne)]
  · subst h0
    have hh := headers_eq a.Headers h
    have he3 := he1
    unfold m_message_CheckResponse at he1
    rw [out_eq, hh.1] at he1
    simp only [Option.bind_some] at he1
    cases ho : outP a.Status 100 599
    · rw [ho] at he1
      simp only [Bool.false_eq_true, if_false] at he1
      have hE : hdsE a.Headers = 0 := by
        split at he1
        · exact Option.some.inj he1
        · rename_i h1
          exact Classical.byContradiction fun h2 => h1 (by simpa using h2)
      have hB : a.Body.length ≤ 20000 := by
        rw [if_neg (by simpa using hE)] at he1
        split at he1
        · cases he1
        · rename_i h1
          simp at h1; omega
      rw [outP_in] at ho
      simp at ho
      refine write_resp a (hds_cnt hE) (fun x hx => ?_) hB (by omega) he3
      have := hds_ok hE x hx
      exact ⟨tok_asc this.1, tok_len this.1, fld_len this.2⟩
    · rw [ho] at he1; cases he1
theorem messagesWritten_plain (L : List Int) : m_gatelaw2_MessagesWritten L = some true := by
  refine ok_eq ?_
  unfold m_gatelaw2_MessagesWritten
  have h0 : SB 0 (S_gatemake_Stream.mk L 0) := ⟨by simp, by simp⟩
  refine ok_bind (request_ok h0 (by omega)) fun r2 h2 => ok_bind (response_ok h2.2 (by omega)) fun r4 h4 => ?_
  obtain ⟨e, e1, e2, e3⟩ := request_w r2.1 h2.1
  obtain ⟨q, q1, q2, q3⟩ := response_w r4.1 h4.1
  have hJ2 : ∀ (r6 r8 : Bs × Int), r6.2 = e → r8.2 = q → Ok (gatelaw2_MessagesWritten_J2 r2 r4 r6 r8 r6.1 r8.1) (· = true) := by
    intro r6 r8 g1 g2
    unfold gatelaw2_MessagesWritten_J2 gatelaw2_MessagesWritten_J3
    rw [show m_gateref2_RequestFault (S_api_Request.mk r2.1.At r2.1.Method r2.1.Host r2.1.Path r2.1.Query r2.1.From r2.1.Headers r2.1.Body) = some e from e1, q1]
    simp only [Option.bind_some, decide_true, if_true, g1, g2, spoken_eq]
    exact ⟨true, rfl, rfl⟩
  have hJ1 : ∀ (r6 : Bs × Int), r6.2 = e → Ok ((m_message_WriteResponse r4.1).bind fun (r8 : (Bs × Int)) => gatelaw2_MessagesWritten_J1 r2 r4 r6 r8 r6.1) (· = true) := by
    intro r6 g1
    by_cases hq : q = 0
    · obtain ⟨t, t1, t2⟩ := q3 hq
      rw [t1]
      simp only [Option.bind_some]
      unfold gatelaw2_MessagesWritten_J1
      rw [q1]
      simp only [Option.bind_some]
      rw [if_pos (by simpa using hq), t2]
      exact hJ2 r6 (t, 0) g1 hq.symm
    · rw [q2 hq]
      simp only [Option.bind_some]
      unfold gatelaw2_MessagesWritten_J1
      rw [q1]
      simp only [Option.bind_some]
      rw [if_neg (by simpa using hq)]
      exact hJ2 r6 ([], q) g1 rfl
  by_cases he : e = 0
  · obtain ⟨t, t1, t2⟩ := e3 he
    have hJ := hJ1 (t, 0) he.symm
    obtain ⟨r8, w1, w2⟩ : ∃ r8, m_message_WriteResponse r4.1 = some r8 ∧ Ok (gatelaw2_MessagesWritten_J1 r2 r4 (t, 0) r8 t) (· = true) := by
      cases hw : m_message_WriteResponse r4.1 with
      | none => rw [hw] at hJ; obtain ⟨_, h, _⟩ := hJ; cases h
      | some r8 => rw [hw] at hJ; exact ⟨r8, rfl, hJ⟩
    show Ok ((m_message_WriteRequest r2.1).bind _) _
    rw [t1]
    simp only [Option.bind_some]
    rw [w1]
    simp only [Option.bind_some]
    show Ok ((m_gateref2_RequestFault r2.1).bind _) _
    rw [e1]
    simp only [Option.bind_some]
    rw [if_pos (by simpa using he)]
    show Ok ((m_gateref2_RequestBytes r2.1).bind _) _
    rw [t2]
    exact w2
  · have hJ := hJ1 ([], e) rfl
    obtain ⟨r8, w1, w2⟩ : ∃ r8, m_message_WriteResponse r4.1 = some r8 ∧ Ok (gatelaw2_MessagesWritten_J1 r2 r4 ([], e) r8 []) (· = true) := by
      cases hw : m_message_WriteResponse r4.1 with
      | none => rw [hw] at hJ; obtain ⟨_, h, _⟩ := hJ; cases h
      | some r8 => rw [hw] at hJ; exact ⟨r8, rfl, hJ⟩
    show Ok ((m_message_WriteRequest r2.1).bind _) _
    rw [e2 he]
    simp only [Option.bind_some]
    rw [w1]
    simp only [Option.bind_some]
    show Ok ((m_gateref2_RequestFault r2.1).bind _) _
    rw [e1]
    simp only [Option.bind_some]
    rw [if_neg (by simpa using he)]
    exact w2
end Go.Proofs.YtodipncpfipjnaaGreatDoor
