/- The pure part of the proof of FnExactAheadBy: the printed functions answer true, for every drawn or given argument within the row's own bounds; no further condition. -/
import Derived.Test.YtbljbcgooenjfaaPFnExactAheadByx8
import Derived.Laws.BitsLemmas
namespace Go.Proofs.Ytbljbcgooenjfaa.Pure
open Go.RowKit Go.Proofs.Ytbljbcgooenjfaa.PFnExactAheadBy Go.Proofs.YtbljbcgooenjfaaW.PrintWords Go.Proofs.YtbljbcgooenjfaaW.PrintLast Go.Proofs.YtbljbcgooenjfaaW.PrintMore
set_option linter.unusedVariables false
set_option linter.unusedSimpArgs false
/-! base -/
theorem w64 {x : Int} (h0 : -9223372036854775808 ≤ x) (h1 : x ≤ 9223372036854775807) : wrap64 x = x := by
  unfold wrap64
  omega
theorem w64s (n : Nat) (h : n ≤ 4611686018427387904) : wrap64 ((n : Int) + 1) = ((n + 1 : Nat) : Int) := by
  unfold wrap64
  omega
theorem drop_split {α : Type} {l : List α} {i : Nat} {x : α} {xs : List α} (h : l.drop i = x :: xs) : i < l.length ∧ l.drop (i + 1) = xs ∧ ∀ d, l.getD i d = x := by
  have hi : i < l.length := by
    have h2 : 0 < (l.drop i).length := by rw [h]; simp
    rw [List.length_drop] at h2
    omega
  rw [List.drop_eq_getElem_cons hi] at h
  injection h with h1 h2
  exact ⟨hi, h2, fun d => by rw [List.getD_eq_getElem?_getD, List.getElem?_eq_getElem hi, h1]; rfl⟩
theorem drop_nil {α : Type} {l : List α} {i : Nat} (h : l.drop i = []) : l.length ≤ i := List.drop_eq_nil_iff.1 h
theorem getD_lt {α : Type} {l : List α} {i : Nat} (h : i < l.length) (d : α) : l.getD i d = l[i] := by
  rw [List.getD_eq_getElem?_getD, List.getElem?_eq_getElem h]; rfl
theorem rd_nat (l : List Int) (i : Nat) : rd l (i : Int) = l.getD i 0 := by
  unfold rd
  rw [Int.toNat_natCast]
theorem getD_mem {α : Type} {l : List α} {i : Nat} (h : i < l.length) (d : α) : l.getD i d ∈ l := by
  rw [getD_lt h]; exact List.getElem_mem h
theorem take_succ_getD {α : Type} {l : List α} {i : Nat} (h : i < l.length) (d : α) : l.take (i + 1) = l.take i ++ [l.getD i d] := by
  rw [getD_lt h, List.take_succ_eq_append_getElem h]
theorem mx_max (a b : Int) : mx a b = max a b := by
  unfold mx; omega
theorem mn_min (a b : Int) : mn a b = min a b := by
  unfold mn; omega
theorem bind_of {α β : Type} {o : Option α} {r : α} {f : α → Option β} {s : Option β} (h : o = some r) (h2 : f r = s) : o.bind f = s := by rw [h]; exact h2
theorem getD_snoc_last {α : Type} (l : List α) (x d : α) {i : Nat} (h : l.length = i) : (l ++ [x]).getD i d = x := by
  subst h
  rw [List.getD_eq_getElem?_getD, List.getElem?_append_right (Nat.le_refl _), Nat.sub_self]
  rfl
theorem getD_snoc_lt {α : Type} (l r : List α) (d : α) {i : Nat} (h : i < l.length) : (l ++ r).getD i d = l.getD i d := by
  rw [List.getD_eq_getElem?_getD, List.getElem?_append_left h, List.getD_eq_getElem?_getD]

/-! l1in -/
theorem spec_l1In_is (a b c : Int) : spec_l1In.f a b c = some (decide (b ≤ a ∧ a ≤ c)) := by
  unfold spec_l1In.f
  by_cases h : a ≥ b
  · rw [if_pos h]
    congr 1
    apply decide_eq_decide.2
    omega
  · rw [if_neg h]
    congr 1
    symm
    exact decide_eq_false (by omega)

/-! customers -/
/-- Customers, as both texts ask: seen from a place on, with the one ahead. -/
def custFrom : Option S43 → List S43 → Bool
  | _, [] => true
  | none, c :: cs => decide (0 ≤ c.f0 ∧ c.f0 ≤ 60 ∧ 1 ≤ c.f1 ∧ c.f1 ≤ 9) && custFrom (some c) cs
  | some p, c :: cs => decide (0 ≤ c.f0 ∧ c.f0 ≤ 60 ∧ 1 ≤ c.f1 ∧ c.f1 ≤ 9 ∧ p.f0 ≤ c.f0) && custFrom (some c) cs
def custOk (l : List S43) : Bool := custFrom none l && decide (l.length ≤ 8)
theorem rd_Customer_nat (l : List S43) (i : Nat) : rd_T43 l (i : Int) = l.getD i z43 := by
  unfold rd_T43
  rw [Int.toNat_natCast]
theorem cust_bad {p : Option S43} {x : S43} {xs : List S43} (h : ¬ (0 ≤ x.f0 ∧ x.f0 ≤ 60 ∧ 1 ≤ x.f1 ∧ x.f1 ≤ 9)) : custFrom p (x :: xs) = false := by
  cases p with
  | none => simp only [custFrom, decide_eq_false h, Bool.false_and]
  | some q => simp only [custFrom, decide_eq_false (show ¬ (0 ≤ x.f0 ∧ x.f0 ≤ 60 ∧ 1 ≤ x.f1 ∧ x.f1 ≤ 9 ∧ q.f0 ≤ x.f0) from fun hh => h ⟨hh.1, hh.2.1, hh.2.2.1, hh.2.2.2.1⟩), Bool.false_and]
theorem cust_bad2 {p x : S43} {xs : List S43} (h : x.f0 < p.f0) : custFrom (some p) (x :: xs) = false := by
  simp only [custFrom, decide_eq_false (show ¬ (0 ≤ x.f0 ∧ x.f0 ≤ 60 ∧ 1 ≤ x.f1 ∧ x.f1 ≤ 9 ∧ p.f0 ≤ x.f0) from fun hh => by omega), Bool.false_and]
theorem impl_CustomersOk_loop (l : List S43) (hl : l.length ≤ 1048576) : ∀ (suf : List S43) (i k : Nat), l.drop i = suf → suf.length < k → i ≤ l.length →
    impl_CustomersOk.l0 k l l (l.length : Int) i = some (custFrom (if i = 0 then none else some (l.getD (i - 1) z43)) suf && decide (l.length ≤ 8)) := by
  intro suf
  induction suf with
  | nil =>
    intro i k hd hk hi
    obtain ⟨k, rfl⟩ : ∃ m, k = m + 1 := ⟨k - 1, by omega⟩
    have := drop_nil hd
    simp only [impl_CustomersOk.l0]
    rw [if_neg (by omega)]
    congr 1
    have e : (decide ((l.length : Int) ≤ 8)) = decide (l.length ≤ 8) := decide_eq_decide.2 (by omega)
    rw [e]
    split <;> simp [custFrom]
  | cons x xs ih =>
    intro i k hd hk hi
    obtain ⟨k, rfl⟩ : ∃ m, k = m + 1 := ⟨k - 1, by omega⟩
    obtain ⟨hlt, hd2, hx⟩ := drop_split hd
    simp only [impl_CustomersOk.l0]
    rw [if_pos (by omega), if_pos (by omega), if_pos (by omega), rd_Customer_nat, hx, w64s i (by omega), ih (i + 1) k hd2 (by simp at hk; omega) (by omega)]
    rw [if_neg (show ¬ i + 1 = 0 by omega), show i + 1 - 1 = i from rfl, hx]
    by_cases h1 : x.f0 < 0
    · rw [if_pos h1, cust_bad (by omega), Bool.false_and]
    rw [if_neg h1]
    by_cases h2 : x.f0 > 60
    · rw [if_pos h2, cust_bad (by omega), Bool.false_and]
    rw [if_neg h2]
    by_cases hi0 : i = 0
    · subst hi0
      rw [if_neg (by omega)]
      by_cases h3 : x.f1 < 1
      · rw [if_pos h3, cust_bad (by omega), Bool.false_and]
      rw [if_neg h3]
      by_cases h4 : x.f1 > 9
      · rw [if_pos h4, cust_bad (by omega), Bool.false_and]
      rw [if_neg h4, if_pos rfl]
      have e : decide (0 ≤ x.f0 ∧ x.f0 ≤ 60 ∧ 1 ≤ x.f1 ∧ x.f1 ≤ 9) = true := decide_eq_true (by omega)
      simp only [custFrom, e, Bool.true_and]
    · rw [if_pos (by omega), show wrap64 ((i : Int) - 1) = ((i - 1 : Nat) : Int) from by rw [w64 (by omega) (by omega)]; omega, if_pos (by omega), if_pos (by omega), rd_Customer_nat, if_neg hi0]
      by_cases h5 : x.f0 < (l.getD (i - 1) z43).f0
      · rw [if_pos h5, cust_bad2 h5, Bool.false_and]
      rw [if_neg h5]
      by_cases h3 : x.f1 < 1
      · rw [if_pos h3, cust_bad (by omega), Bool.false_and]
      rw [if_neg h3]
      by_cases h4 : x.f1 > 9
      · rw [if_pos h4, cust_bad (by omega), Bool.false_and]
      rw [if_neg h4]
      have e : decide (0 ≤ x.f0 ∧ x.f0 ≤ 60 ∧ 1 ≤ x.f1 ∧ x.f1 ≤ 9 ∧ (l.getD (i - 1) z43).f0 ≤ x.f0) = true := decide_eq_true (by omega)
      simp only [custFrom, e, Bool.true_and]
theorem impl_CustomersOk_is (l : List S43) (hl : l.length ≤ 1048576) (k : Nat) (hk : l.length < k) : impl_CustomersOk.f k l = some (custOk l) := by
  unfold impl_CustomersOk.f
  exact impl_CustomersOk_loop l hl l 0 k rfl hk (by omega)

/-! custspec -/
theorem spec_CustomersOk_loop (l : List S43) (hl : l.length ≤ 1048576) : ∀ (suf : List S43) (i k : Nat), l.drop i = suf → suf.length < k → i ≤ l.length →
    spec_CustomersOk.l0 k l i = some (custFrom (if i = 0 then none else some (l.getD (i - 1) z43)) suf && decide (l.length ≤ 8)) := by
  intro suf
  induction suf with
  | nil =>
    intro i k hd hk hi
    obtain ⟨k, rfl⟩ : ∃ m, k = m + 1 := ⟨k - 1, by omega⟩
    have := drop_nil hd
    simp only [spec_CustomersOk.l0]
    rw [if_neg (by omega)]
    congr 1
    have e : (decide ((l.length : Int) ≤ 8)) = decide (l.length ≤ 8) := decide_eq_decide.2 (by omega)
    rw [e]
    split <;> simp [custFrom]
  | cons x xs ih =>
    intro i k hd hk hi
    obtain ⟨k, rfl⟩ : ∃ m, k = m + 1 := ⟨k - 1, by omega⟩
    obtain ⟨hlt, hd2, hx⟩ := drop_split hd
    simp only [spec_CustomersOk.l0]
    rw [if_pos (by omega), if_pos (by omega), rd_Customer_nat, hx, spec_l1In_is, spec_l1In_is, w64s i (by omega), ih (i + 1) k hd2 (by simp at hk; omega) (by omega)]
    simp only [Option.bind_some, decide_eq_true_eq]
    rw [if_neg (show ¬ i + 1 = 0 by omega), show i + 1 - 1 = i from rfl, hx]
    by_cases h1 : 0 ≤ x.f0 ∧ x.f0 ≤ 60
    · rw [if_pos h1]
      by_cases h2 : 1 ≤ x.f1 ∧ x.f1 ≤ 9
      · rw [if_pos h2]
        by_cases hi0 : i = 0
        · subst hi0
          rw [if_neg (by omega), if_pos rfl]
          have e : decide (0 ≤ x.f0 ∧ x.f0 ≤ 60 ∧ 1 ≤ x.f1 ∧ x.f1 ≤ 9) = true := decide_eq_true (by omega)
          simp only [custFrom, e, Bool.true_and]
        · rw [if_pos (by omega), show wrap64 ((i : Int) - 1) = ((i - 1 : Nat) : Int) from by rw [w64 (by omega) (by omega)]; omega, if_pos (by omega), if_pos (by omega), rd_Customer_nat, if_neg hi0]
          by_cases h5 : x.f0 < (l.getD (i - 1) z43).f0
          · rw [if_pos h5, cust_bad2 h5, Bool.false_and]
          rw [if_neg h5]
          have e : decide (0 ≤ x.f0 ∧ x.f0 ≤ 60 ∧ 1 ≤ x.f1 ∧ x.f1 ≤ 9 ∧ (l.getD (i - 1) z43).f0 ≤ x.f0) = true := decide_eq_true (by omega)
          simp only [custFrom, e, Bool.true_and]
      · rw [if_neg h2, cust_bad (by omega), Bool.false_and]
    · rw [if_neg h1, cust_bad (by omega), Bool.false_and]
theorem spec_CustomersOk_is (l : List S43) (hl : l.length ≤ 1048576) (k : Nat) (hk : l.length < k) : spec_CustomersOk.f k l = some (custOk l) := by
  unfold spec_CustomersOk.f
  exact spec_CustomersOk_loop l hl l 0 k rfl hk (by omega)

/-! custfacts -/
theorem custFrom_tail {p : Option S43} {x : S43} {xs : List S43} (h : custFrom p (x :: xs) = true) : (0 ≤ x.f0 ∧ x.f0 ≤ 60 ∧ 1 ≤ x.f1 ∧ x.f1 ≤ 9) ∧ custFrom (some x) xs = true ∧ ∀ q, p = some q → q.f0 ≤ x.f0 := by
  cases p with
  | none =>
    simp only [custFrom, Bool.and_eq_true, decide_eq_true_eq] at h
    exact ⟨h.1, h.2, fun q e => by cases e⟩
  | some q =>
    simp only [custFrom, Bool.and_eq_true, decide_eq_true_eq] at h
    exact ⟨⟨h.1.1, h.1.2.1, h.1.2.2.1, h.1.2.2.2.1⟩, h.2, fun q' e => by cases e; exact h.1.2.2.2.2⟩
theorem custFrom_mem {l : List S43} : ∀ {p : Option S43}, custFrom p l = true → ∀ c ∈ l, 0 ≤ c.f0 ∧ c.f0 ≤ 60 ∧ 1 ≤ c.f1 ∧ c.f1 ≤ 9 := by
  induction l with
  | nil => intro p _ c hc; cases hc
  | cons x xs ih =>
    intro p h c hc
    obtain ⟨h1, h2, -⟩ := custFrom_tail h
    rcases List.mem_cons.1 hc with rfl | hc
    · exact h1
    · exact ih h2 c hc
theorem custFrom_le {l : List S43} : ∀ {p : S43}, custFrom (some p) l = true → ∀ c ∈ l, p.f0 ≤ c.f0 := by
  induction l with
  | nil => intro p _ c hc; cases hc
  | cons x xs ih =>
    intro p h c hc
    obtain ⟨h1, h2, h3⟩ := custFrom_tail h
    have hp := h3 p rfl
    rcases List.mem_cons.1 hc with rfl | hc
    · exact hp
    · have := ih h2 c hc; omega
theorem custOk_from {l : List S43} (h : custOk l = true) : custFrom none l = true := by
  unfold custOk at h
  rw [Bool.and_eq_true] at h
  exact h.1
theorem custOk_len {l : List S43} (h : custOk l = true) : l.length ≤ 8 := by
  unfold custOk at h
  rw [Bool.and_eq_true] at h
  exact of_decide_eq_true h.2
theorem custOk_mem {l : List S43} (h : custOk l = true) : ∀ c ∈ l, 0 ≤ c.f0 ∧ c.f0 ≤ 60 ∧ 1 ≤ c.f1 ∧ c.f1 ≤ 9 := custFrom_mem (custOk_from h)
theorem custFrom_adj {l : List S43} : ∀ {p : Option S43}, custFrom p l = true → ∀ i, i + 1 < l.length → (l.getD i z43).f0 ≤ (l.getD (i + 1) z43).f0 := by
  induction l with
  | nil => intro p _ i h; simp at h
  | cons x xs ih =>
    intro p h i hi
    obtain ⟨h1, h2, -⟩ := custFrom_tail h
    cases i with
    | zero => exact custFrom_le h2 (xs.getD 0 z43) (getD_mem (by simpa using hi) _)
    | succ i => exact ih h2 i (by simpa using hi)

/-! orders -/
/-! Orders: for each unit of time who is served. -/
def needs (l : List S43) : List Int := l.map (·.f1)
def servedOne (left : List Int) (w : Int) : List Int := if 0 ≤ w then left.set w.toNat (left.getD w.toNat 0 - 1) else left
def okI (l : List S43) : List Int → Int → List Int → Bool
  | left, _, [] => left.all (fun n => decide (n = 0))
  | left, t, w :: ws => decide (-1 ≤ w ∧ w < (l.length : Int) ∧ (0 ≤ w → (l.getD w.toNat z43).f0 ≤ t)) && okI l (servedOne left w) (t + 1) ws
def orderOk (l : List S43) (order : List Int) : Bool := custOk l && (decide (order.length ≤ 200) && okI l (needs l) 0 order)
theorem orderOk_parts {l : List S43} {order : List Int} (h : orderOk l order = true) : custOk l = true ∧ order.length ≤ 200 ∧ okI l (needs l) 0 order = true := by
  unfold orderOk at h
  rw [Bool.and_eq_true, Bool.and_eq_true, decide_eq_true_eq] at h
  exact h
theorem needs_length (l : List S43) : (needs l).length = l.length := by unfold needs; rw [List.length_map]
theorem servedOne_length (left : List Int) (w : Int) : (servedOne left w).length = left.length := by
  unfold servedOne; split
  · rw [List.length_set]
  · rfl
theorem needs_get (l : List S43) (i : Nat) : (needs l).getD i 0 = (l.getD i z43).f1 := by
  unfold needs
  rw [List.getD_eq_getElem?_getD, List.getD_eq_getElem?_getD, List.getElem?_map]
  cases l[i]? <;> rfl
theorem getD_set_eq {α : Type} (X : List α) (i : Nat) (v d : α) (h : i < X.length) : (X.set i v).getD i d = v := by
  rw [getD_lt (by rw [List.length_set]; exact h), List.getElem_set_self]
theorem getD_set_ne {α : Type} (X : List α) (i j : Nat) (v d : α) (h : i ≠ j) : (X.set i v).getD j d = X.getD j d := by
  rw [List.getD_eq_getElem?_getD, List.getElem?_set_ne h, List.getD_eq_getElem?_getD]
/-- How often one is served. -/
def cntW (w : Int) : List Int → Int
  | [] => 0
  | x :: xs => (if x = w then 1 else 0) + cntW w xs
theorem cntW_append (w : Int) (a b : List Int) : cntW w (a ++ b) = cntW w a + cntW w b := by
  induction a with
  | nil => simp [cntW]
  | cons x xs ih => simp only [List.cons_append, cntW, ih]; omega
theorem cntW_bound (w : Int) (a : List Int) : 0 ≤ cntW w a ∧ cntW w a ≤ a.length := by
  induction a with
  | nil => simp [cntW]
  | cons x xs ih => simp only [cntW, List.length_cons]; split <;> omega
theorem okI_cnt (l : List S43) : ∀ (ws left : List Int) (t : Int), left.length = l.length → okI l left t ws = true → ∀ i, i < left.length → left.getD i 0 = cntW (i : Int) ws := by
  intro ws
  induction ws with
  | nil =>
    intro left t hl h i hi
    simp only [okI, List.all_eq_true, decide_eq_true_eq] at h
    simp only [cntW]
    exact h _ (getD_mem hi _)
  | cons w ws ih =>
    intro left t hl h i hi
    simp only [okI, Bool.and_eq_true, decide_eq_true_eq] at h
    obtain ⟨⟨h1, h2, -⟩, h4⟩ := h
    have := ih (servedOne left w) (t + 1) (by rw [servedOne_length]; exact hl) h4 i (by rw [servedOne_length]; exact hi)
    simp only [cntW]
    rw [← this]
    unfold servedOne
    by_cases hw : 0 ≤ w
    · rw [if_pos hw]
      by_cases e : w = (i : Int)
      · rw [if_pos e, show w.toNat = i from by omega, getD_set_eq _ _ _ _ hi]; omega
      · rw [if_neg e, getD_set_ne _ _ _ _ _ (by omega)]; omega
    · rw [if_neg hw, if_neg (by omega)]; omega
theorem orderOk_cnt {l : List S43} {order : List Int} (h : orderOk l order = true) (i : Nat) (hi : i < l.length) : cntW (i : Int) order = (l.getD i z43).f1 := by
  obtain ⟨-, -, h3⟩ := orderOk_parts h
  rw [← okI_cnt l order (needs l) 0 (needs_length l) h3 i (by rw [needs_length]; exact hi), needs_get]
theorem okI_neg (l : List S43) : ∀ (ws left : List Int) (t : Int), left.length = l.length → (∃ i, i < left.length ∧ left.getD i 0 < 0) → okI l left t ws = false := by
  intro ws left t hl ⟨i, hi, hneg⟩
  by_cases h : okI l left t ws = true
  · have := okI_cnt l ws left t hl h i hi
    have := cntW_bound (i : Int) ws
    omega
  · simpa using h
theorem needs_bound {l : List S43} (hok : custOk l = true) : ∀ x ∈ needs l, 0 ≤ x ∧ x ≤ 9 := by
  intro x hx
  unfold needs at hx
  obtain ⟨c, hc, rfl⟩ := List.mem_map.1 hx
  have := custOk_mem hok c hc
  omega

/-! leftof -/
theorem impl_leftOf_loop (l : List S43) (hl : l.length ≤ 1048576) : ∀ (suf : List S43) (i k : Nat) (out : List Int), l.drop i = suf → suf.length < k → i ≤ l.length → out.length ≤ i → impl_leftOf.l0 k out l (l.length : Int) i = some (out ++ needs suf) := by
  intro suf
  induction suf with
  | nil =>
    intro i k out hd hk hi ho
    obtain ⟨k, rfl⟩ : ∃ m, k = m + 1 := ⟨k - 1, by omega⟩
    have := drop_nil hd
    simp only [impl_leftOf.l0]
    rw [if_neg (by omega)]
    simp [needs]
  | cons x xs ih =>
    intro i k out hd hk hi ho
    obtain ⟨k, rfl⟩ : ∃ m, k = m + 1 := ⟨k - 1, by omega⟩
    obtain ⟨hlt, hd2, hx⟩ := drop_split hd
    simp only [impl_leftOf.l0]
    rw [if_pos (by omega), if_pos (by omega), if_pos (by omega), if_pos (by omega), rd_Customer_nat, hx, w64s i (by omega)]
    rw [ih (i + 1) k _ hd2 (by simp at hk; omega) (by omega) (by rw [List.length_append]; simp; omega)]
    simp [needs]
theorem impl_leftOf_is (l : List S43) (hl : l.length ≤ 1048576) (k : Nat) (hk : l.length < k) : impl_leftOf.f k l = some (needs l) := by
  unfold impl_leftOf.f
  exact impl_leftOf_loop l hl l 0 k [] rfl hk (by omega) (by simp)

/-! orderok -/
theorem impl_OrderOk_end (left : List Int) (hl : left.length ≤ 1048576) : ∀ (suf : List Int) (i k : Nat), left.drop i = suf → suf.length < k → i ≤ left.length → impl_OrderOk.l1 k left (left.length : Int) i = some (suf.all (fun n => decide (n = 0))) := by
  intro suf
  induction suf with
  | nil =>
    intro i k hd hk hi
    obtain ⟨k, rfl⟩ : ∃ m, k = m + 1 := ⟨k - 1, by omega⟩
    have := drop_nil hd
    simp only [impl_OrderOk.l1]
    rw [if_neg (by omega)]
    rfl
  | cons x xs ih =>
    intro i k hd hk hi
    obtain ⟨k, rfl⟩ : ∃ m, k = m + 1 := ⟨k - 1, by omega⟩
    obtain ⟨hlt, hd2, hx⟩ := drop_split hd
    simp only [impl_OrderOk.l1]
    rw [if_pos (by omega), if_pos (by omega), if_pos (by omega), rd_nat, hx, w64s i (by omega), ih (i + 1) k hd2 (by simp at hk; omega) (by omega)]
    by_cases h : x = 0
    · rw [if_pos h, h]; simp
    · rw [if_neg h]; simp [h]
theorem servedOne_bound {left : List Int} {w : Int} {B : Int} (h : ∀ x ∈ left, -B ≤ x ∧ x ≤ 9) (hw : w.toNat < left.length) : ∀ x ∈ servedOne left w, -(B + 1) ≤ x ∧ x ≤ 9 := by
  intro x hx
  unfold servedOne at hx
  split at hx
  · rcases List.mem_or_eq_of_mem_set hx with hx | hx
    · have := h x hx; omega
    · have := h _ (getD_mem hw 0); omega
  · have := h x hx; omega
theorem impl_OrderOk_loop (l : List S43) (h8 : l.length ≤ 8) (order : List Int) (ho : order.length ≤ 200) : ∀ (suf : List Int) (i k : Nat) (left : List Int), order.drop i = suf → 2 * suf.length + 20 ≤ k → i ≤ order.length → left.length = l.length → (∀ x ∈ left, -(i : Int) ≤ x ∧ x ≤ 9) →
    impl_OrderOk.l0 k l left order (order.length : Int) i = some (okI l left i suf) := by
  intro suf
  induction suf with
  | nil =>
    intro i k left hd hk hi hl hb
    obtain ⟨k, rfl⟩ : ∃ m, k = m + 1 := ⟨k - 1, by omega⟩
    have := drop_nil hd
    simp only [impl_OrderOk.l0]
    rw [if_neg (by omega)]
    exact impl_OrderOk_end left (by omega) left 0 k rfl (by omega) (by omega)
  | cons w ws ih =>
    intro i k left hd hk hi hl hb
    obtain ⟨k, rfl⟩ : ∃ m, k = m + 2 := ⟨k - 2, by omega⟩
    obtain ⟨hlt, hd2, hx⟩ := drop_split hd
    simp only [List.length_cons] at hk
    simp only [impl_OrderOk.l0, impl_OrderOk.j2, okI]
    rw [if_pos (by omega), if_pos (by omega), if_pos (by omega), rd_nat, hx]
    by_cases h1 : w < -1
    · rw [if_pos h1, decide_eq_false (by omega), Bool.false_and, if_pos trivial]
    rw [if_neg h1]
    by_cases h2 : w ≥ (l.length : Int)
    · rw [if_pos h2, decide_eq_false (by omega), Bool.false_and, if_pos trivial]
    rw [if_neg h2]
    have hih := ih (i + 1) k (servedOne left w) hd2 (by omega) (by omega) (by rw [servedOne_length]; exact hl)
    by_cases h3 : w ≥ 0
    · have hwl : w.toNat < left.length := by omega
      have hwb := hb (left.getD w.toNat 0) (getD_mem hwl _)
      have hih2 := hih (by have := servedOne_bound hb hwl; intro x hx; have := this x hx; omega)
      have e : servedOne left w = left.set w.toNat (wrap64 (rd left w - 1)) := by
        unfold servedOne rd
        rw [if_pos h3, show wrap64 (left.getD w.toNat 0 - 1) = left.getD w.toNat 0 - 1 from w64 (by omega) (by omega)]
      rw [if_pos h3, if_pos (show (0 : Int) ≤ w by omega), if_pos (show w < (l.length : Int) by omega), if_pos (show w < (left.length : Int) by omega), ← e, w64s i (by omega), hih2, if_pos h3]
      rw [show rd_T43 l w = l.getD w.toNat z43 from rfl]
      rw [show ((i + 1 : Nat) : Int) = (i : Int) + 1 from by omega]
      by_cases h4 : (l.getD w.toNat z43).f0 > (i : Int)
      · rw [if_pos (by simpa using h4), decide_eq_false (by intro h; have := h.2.2 h3; omega), Bool.false_and]
      · rw [if_neg (by simpa using h4), decide_eq_true ⟨by omega, by omega, fun _ => by omega⟩, Bool.true_and]
        (try simp); (try omega)
    · have e : servedOne left w = left := by unfold servedOne; rw [if_neg h3]
      rw [e] at hih ⊢
      have hih2 := hih (fun x hx => by have := hb x hx; omega)
      rw [if_neg h3, if_neg (by simp), if_neg h3, w64s i (by omega), hih2, decide_eq_true ⟨by omega, by omega, fun h => absurd h h3⟩, Bool.true_and]
      rw [show ((i + 1 : Nat) : Int) = (i : Int) + 1 from by omega]
theorem impl_OrderOk_is (l : List S43) (order : List Int) (hl : l.length ≤ 1048576) (k : Nat) (hk : l.length + 430 ≤ k) : impl_OrderOk.f k l order = some (orderOk l order) := by
  obtain ⟨k, rfl⟩ : ∃ m, k = m + 1 := ⟨k - 1, by omega⟩
  have neg : impl_OrderOk.j0 (k + 1) l order true = some false := by simp [impl_OrderOk.j0]
  unfold impl_OrderOk.f orderOk
  rw [impl_CustomersOk_is l hl (k + 1) (by omega), neg]
  simp only [Option.bind_some]
  by_cases hok : custOk l = true
  · have h8 := custOk_len hok
    rw [if_pos hok, hok, Bool.true_and]
    by_cases h2 : (order.length : Int) > 200
    · rw [decide_eq_true h2, neg, decide_eq_false (by omega), Bool.false_and]
    · rw [decide_eq_false h2]
      simp only [impl_OrderOk.j0]
      rw [if_neg (by simp), impl_leftOf_is l hl k (by omega)]
      simp only [Option.bind_some]
      rw [decide_eq_true (by omega), Bool.true_and]
      exact impl_OrderOk_loop l h8 order (by omega) order 0 k (needs l) rfl (by omega) (by omega) (needs_length l) (fun x hx => by have := needs_bound hok x hx; omega)
  · rw [if_neg hok, Bool.not_eq_true _ |>.mp hok, Bool.false_and]

/-! orderok_spec -/
def okS (l : List S43) (fin : Bool) : List Int → Int → List Int → Bool
  | left, _, [] => left.all (fun n => decide (n ≤ 0)) && fin
  | left, t, w :: ws => if -1 ≤ w ∧ w ≤ (l.length : Int) - 1 then (if 0 ≤ w then (if (l.getD w.toNat z43).f0 ≤ t ∧ ¬ left.getD w.toNat 0 = 0 then okS l fin (left.set w.toNat (wrap64 (left.getD w.toNat 0 - 1))) (t + 1) ws else false) else okS l fin left (t + 1) ws) else false
theorem okS_false (l : List S43) : ∀ (ws left : List Int) (t : Int), okS l false left t ws = false := by
  intro ws
  induction ws with
  | nil => intro left t; simp [okS]
  | cons w ws ih => intro left t; simp only [okS, ih]; split <;> (try split) <;> (try split) <;> rfl
theorem okS_okI (l : List S43) (fin : Bool) : ∀ (ws left : List Int) (t : Int), left.length = l.length → (∀ x ∈ left, 0 ≤ x ∧ x ≤ 9) → okS l fin left t ws = (okI l left t ws && fin) := by
  intro ws
  induction ws with
  | nil =>
    intro left t hl hb
    simp only [okS, okI]
    congr 1
    rw [Bool.eq_iff_iff, List.all_eq_true, List.all_eq_true]
    simp only [decide_eq_true_eq]
    constructor
    · intro h x hx; have := h x hx; have := hb x hx; omega
    · intro h x hx; have := h x hx; omega
  | cons w ws ih =>
    intro left t hl hb
    simp only [okS, okI]
    by_cases h1 : -1 ≤ w ∧ w ≤ (l.length : Int) - 1
    · rw [if_pos h1]
      by_cases h2 : 0 ≤ w
      · have hwl : w.toNat < left.length := by omega
        have hwb := hb _ (getD_mem hwl 0)
        rw [if_pos h2]
        by_cases h3 : (l.getD w.toNat z43).f0 ≤ t
        · rw [decide_eq_true ⟨h1.1, by omega, fun _ => h3⟩, Bool.true_and]
          by_cases h4 : left.getD w.toNat 0 = 0
          · rw [if_neg (fun h => h.2 h4)]
            rw [okI_neg l ws (servedOne left w) (t + 1) (by rw [servedOne_length]; exact hl) ⟨w.toNat, by rw [servedOne_length]; exact hwl, by unfold servedOne; rw [if_pos h2, getD_set_eq _ _ _ _ hwl]; omega⟩, Bool.false_and]
          · rw [if_pos ⟨h3, h4⟩, show wrap64 (left.getD w.toNat 0 - 1) = left.getD w.toNat 0 - 1 from w64 (by omega) (by omega)]
            rw [ih _ (t + 1) (by rw [List.length_set]; exact hl) ?_]
            · unfold servedOne; rw [if_pos h2]
            · intro x hx
              rcases List.mem_or_eq_of_mem_set hx with hx | hx
              · exact hb x hx
              · omega
        · rw [if_neg (fun h => h3 h.1), decide_eq_false (fun h => h3 (h.2.2 h2)), Bool.false_and, Bool.false_and]
      · rw [if_neg h2, ih left (t + 1) hl hb, decide_eq_true ⟨h1.1, by omega, fun h => absurd h h2⟩, Bool.true_and]
        unfold servedOne; rw [if_neg h2]
    · rw [if_neg h1, decide_eq_false (by omega), Bool.false_and, Bool.false_and]
theorem spec_OrderOk_left (l : List S43) (order : List Int) (hl : l.length ≤ 1048576) (r : Bool) (K : Nat) (hnext : ∀ k, K ≤ k → spec_OrderOk.l1 k l order (needs l) 0 = some r) : ∀ (suf : List S43) (i k : Nat) (out : List Int), l.drop i = suf → K + suf.length + 1 ≤ k → i ≤ l.length → out = needs (l.take i) → spec_OrderOk.l0 k l order out i = some r := by
  intro suf
  induction suf with
  | nil =>
    intro i k out hd hk hi ho
    obtain ⟨k, rfl⟩ : ∃ m, k = m + 1 := ⟨k - 1, by omega⟩
    have := drop_nil hd
    simp only [spec_OrderOk.l0]
    rw [if_neg (by omega), ho, List.take_of_length_le (by omega)]
    exact hnext k (by simp at hk; omega)
  | cons x xs ih =>
    intro i k out hd hk hi ho
    obtain ⟨k, rfl⟩ : ∃ m, k = m + 1 := ⟨k - 1, by omega⟩
    obtain ⟨hlt, hd2, hx⟩ := drop_split hd
    simp only [spec_OrderOk.l0]
    have hol : out.length = i := by rw [ho, needs_length, List.length_take]; omega
    rw [if_pos (by omega), if_pos (by omega), if_pos (by omega), rd_Customer_nat, hx, w64s i (by omega)]
    exact ih (i + 1) k _ hd2 (by simp at hk; omega) (by omega) (by rw [ho, take_succ_getD hlt z43, hx]; simp [needs])
theorem spec_OrderOk_end (l : List S43) (order : List Int) (hl : l.length ≤ 1048576) (left : List Int) (hll : left.length = l.length) : ∀ (suf : List Int) (i k : Nat), left.drop i = suf → l.length + suf.length + 1 < k → i ≤ left.length → spec_OrderOk.l2 k l order left i = some (suf.all (fun n => decide (n ≤ 0)) && (custOk l && decide (order.length ≤ 200))) := by
  intro suf
  induction suf with
  | nil =>
    intro i k hd hk hi
    obtain ⟨k, rfl⟩ : ∃ m, k = m + 1 := ⟨k - 1, by omega⟩
    have := drop_nil hd
    simp only [spec_OrderOk.l2]
    rw [if_neg (by omega), spec_CustomersOk_is l hl k (by simp at hk; omega)]
    simp only [Option.bind_some, List.all_nil, Bool.true_and]
    have e : (decide ((order.length : Int) ≤ 200)) = decide (order.length ≤ 200) := decide_eq_decide.2 (by omega)
    by_cases h : custOk l = true
    · rw [if_pos h, h, e, Bool.true_and]
    · rw [if_neg h, Bool.not_eq_true _ |>.mp h, Bool.false_and]
  | cons x xs ih =>
    intro i k hd hk hi
    obtain ⟨k, rfl⟩ : ∃ m, k = m + 1 := ⟨k - 1, by omega⟩
    obtain ⟨hlt, hd2, hx⟩ := drop_split hd
    simp only [spec_OrderOk.l2]
    rw [if_pos (by omega), if_pos (by omega), rd_nat, hx, w64s i (by omega), ih (i + 1) k hd2 (by simp at hk; omega) (by omega)]
    by_cases h : x > 0
    · rw [if_pos h, List.all_cons, decide_eq_false (show ¬ x ≤ 0 by omega), Bool.false_and, Bool.false_and]
    · rw [if_neg h, List.all_cons, decide_eq_true (show x ≤ 0 by omega), Bool.true_and]
theorem spec_OrderOk_loop (l : List S43) (order : List Int) (hl : l.length ≤ 1048576) (ho : order.length ≤ 1048576) : ∀ (suf : List Int) (i k : Nat) (left : List Int), order.drop i = suf → 2 * suf.length + 2 * l.length + 3 < k → i ≤ order.length → left.length = l.length →
    spec_OrderOk.l1 k l order left i = some (okS l (custOk l && decide (order.length ≤ 200)) left i suf) := by
  intro suf
  induction suf with
  | nil =>
    intro i k left hd hk hi hll
    obtain ⟨k, rfl⟩ : ∃ m, k = m + 1 := ⟨k - 1, by omega⟩
    have := drop_nil hd
    simp only [spec_OrderOk.l1]
    rw [if_neg (by omega)]
    exact spec_OrderOk_end l order hl left hll left 0 k rfl (by simp at hk; omega) (by omega)
  | cons w ws ih =>
    intro i k left hd hk hi hll
    obtain ⟨k, rfl⟩ : ∃ m, k = m + 2 := ⟨k - 2, by omega⟩
    obtain ⟨hlt, hd2, hx⟩ := drop_split hd
    simp only [List.length_cons] at hk
    have hih := fun left hll => ih (i + 1) k left hd2 (by omega) (by omega) hll
    simp only [spec_OrderOk.l1, spec_OrderOk.j2, okS]
    rw [if_pos (by omega), if_pos (by omega), rd_nat, hx, spec_l1In_is, show wrap64 ((l.length : Int) - 1) = (l.length : Int) - 1 from w64 (by omega) (by omega), w64s i (by omega)]
    simp only [Option.bind_some, decide_eq_true_eq]
    rw [show (i : Int) + 1 = ((i + 1 : Nat) : Int) from by omega]
    by_cases h1 : -1 ≤ w ∧ w ≤ (l.length : Int) - 1
    · rw [if_pos h1, if_pos h1]
      by_cases h2 : 0 ≤ w
      · have hwl : w.toNat < left.length := by omega
        have g1 : w < (l.length : Int) := by omega
        have g2 : w < (left.length : Int) := by omega
        simp only [ge_iff_le, h2, g1, g2, if_true]
        rw [show rd_T43 l w = l.getD w.toNat z43 from rfl, show rd left w = left.getD w.toNat 0 from rfl, hih _ (by rw [List.length_set]; exact hll)]
        by_cases h3 : (l.getD w.toNat z43).f0 > (i : Int)
        · rw [if_pos h3, if_neg (show ¬ ((l.getD w.toNat z43).f0 ≤ (i : Int) ∧ ¬ left.getD w.toNat 0 = 0) from fun h => by omega)]
        · rw [if_neg h3]
          by_cases h4 : left.getD w.toNat 0 = 0
          · rw [if_pos (show (left.getD w.toNat 0 == 0) = true by rw [h4]; rfl), if_neg (show ¬ ((l.getD w.toNat z43).f0 ≤ (i : Int) ∧ ¬ left.getD w.toNat 0 = 0) from fun h => h.2 h4)]
          · rw [if_neg (show ¬ (left.getD w.toNat 0 == 0) = true by rw [beq_iff_eq]; exact h4), if_pos (show ((l.getD w.toNat z43).f0 ≤ (i : Int) ∧ ¬ left.getD w.toNat 0 = 0) from ⟨by omega, h4⟩)]
      · simp only [ge_iff_le, h2, if_false]
        rw [hih left hll]
        simp
    · rw [if_neg h1, if_neg h1, if_pos trivial]
theorem spec_OrderOk_is (l : List S43) (order : List Int) (hl : l.length ≤ 1048576) (ho : order.length ≤ 1048576) (k : Nat) (hk : 2 * order.length + 3 * l.length + 6 ≤ k) : spec_OrderOk.f k l order = some (orderOk l order) := by
  unfold spec_OrderOk.f
  have e : okS l (custOk l && decide (order.length ≤ 200)) (needs l) 0 order = orderOk l order := by
    unfold orderOk
    by_cases hok : custOk l = true
    · rw [okS_okI l _ order (needs l) 0 (needs_length l) (needs_bound hok), hok, Bool.true_and, Bool.true_and, Bool.and_comm]
    · rw [Bool.not_eq_true _ |>.mp hok, Bool.false_and, Bool.false_and, okS_false]
  rw [← e]
  exact spec_OrderOk_left l order hl _ (2 * order.length + 2 * l.length + 4) (fun k hk => spec_OrderOk_loop l order hl ho order 0 k (needs l) rfl (by omega) (by omega) (needs_length l)) l 0 k [] rfl (by omega) (by omega) rfl

/-! units -/
/-- Units of one from a unit on up to another. -/
def unitsP (order : List Int) (w : Int) (a b : Nat) : Int := cntW w ((order.drop a).take (b - a))
theorem impl_unitsIn_loop (order : List Int) (w : Int) (ho : order.length ≤ 1048576) (b : Int) (hb : b ≤ 1048576) : ∀ (d i k : Nat) (n : Int), (d : Int) + i = b ∨ (b ≤ i ∧ d = 0) → 2 * d + 3 ≤ k → 0 ≤ n → n ≤ i →
    impl_unitsIn.l0 k order w b n i = some (n + cntW w ((order.drop i).take d)) := by
  intro d
  induction d with
  | zero =>
    intro i k n hd hk h0 h1
    obtain ⟨k, rfl⟩ : ∃ m, k = m + 2 := ⟨k - 2, by omega⟩
    simp only [impl_unitsIn.l0, impl_unitsIn.j1]
    rw [if_neg (by omega), if_neg (by simp)]
    simp [cntW]
  | succ d ih =>
    intro i k n hd hk h0 h1
    obtain ⟨k, rfl⟩ : ∃ m, k = m + 2 := ⟨k - 2, by omega⟩
    simp only [impl_unitsIn.l0, impl_unitsIn.j1]
    rw [if_pos (by omega)]
    by_cases hlt : i < order.length
    · have hdr : order.drop i = order.getD i 0 :: order.drop (i + 1) := by rw [getD_lt hlt]; exact List.drop_eq_getElem_cons hlt
      have hih := fun n => ih (i + 1) k n (by omega) (by omega)
      rw [if_pos (by simpa using hlt), if_pos (by omega), if_pos (by omega), rd_nat, hdr, w64s i (by omega), show wrap64 (n + 1) = n + 1 from w64 (by omega) (by omega), List.take_succ_cons]
      simp only [cntW]
      by_cases h : order.getD i 0 = w
      · rw [if_pos h, if_pos h, hih (n + 1) (by omega) (by omega)]; congr 1; omega
      · rw [if_neg h, if_neg h, hih n (by omega) (by omega)]; congr 1; omega
    · rw [if_neg (by simpa using hlt), List.drop_eq_nil_of_le (by omega)]
      simp [cntW]
theorem impl_unitsIn_is (order : List Int) (w : Int) (ho : order.length ≤ 1048576) (a b : Nat) (hb : b ≤ 1000) (k : Nat) (hk : 2010 ≤ k) : impl_unitsIn.f k order w a b = some (unitsP order w a b) := by
  unfold impl_unitsIn.f unitsP
  have h := impl_unitsIn_loop order w ho (b : Int) (by omega) (b - a) a k 0 (by omega) (by omega) (by omega) (by omega)
  rw [Int.zero_add] at h
  exact h
theorem unitsP_split (order : List Int) (w : Int) (a m b : Nat) (h1 : a ≤ m) (h2 : m ≤ b) : unitsP order w a b = unitsP order w a m + unitsP order w m b := by
  unfold unitsP
  rw [← cntW_append]
  congr 1
  rw [show b - a = (m - a) + (b - m) from by omega, List.take_add, List.drop_drop, show a + (m - a) = m from by omega]
theorem unitsP_bound (order : List Int) (w : Int) (a b : Nat) (h : a ≤ b) : 0 ≤ unitsP order w a b ∧ unitsP order w a b ≤ (b : Int) - a := by
  unfold unitsP
  have h1 := cntW_bound w ((order.drop a).take (b - a))
  have h2 : ((order.drop a).take (b - a)).length ≤ b - a := by rw [List.length_take]; omega
  omega

/-! orders2 -/
theorem okI_mem (l : List S43) : ∀ (ws left : List Int) (t : Int), okI l left t ws = true → ∀ w ∈ ws, -1 ≤ w ∧ w < (l.length : Int) := by
  intro ws
  induction ws with
  | nil => intro left t _ w hw; cases hw
  | cons x xs ih =>
    intro left t h w hw
    simp only [okI, Bool.and_eq_true, decide_eq_true_eq] at h
    rcases List.mem_cons.1 hw with rfl | hw
    · exact ⟨h.1.1, h.1.2.1⟩
    · exact ih _ _ h.2 w hw
theorem orderOk_mem {l : List S43} {order : List Int} (h : orderOk l order = true) : ∀ w ∈ order, -1 ≤ w ∧ w < (l.length : Int) := okI_mem l order _ _ (orderOk_parts h).2.2

/-! ends -/
/-- When the last unit of one ends: e, or behind the last such unit from t on. -/
def endFrom (w : Int) : Int → Int → List Int → Int
  | _, e, [] => e
  | t, e, x :: xs => endFrom w (t + 1) (if x = w then t + 1 else e) xs
def endsP (n : Nat) (order : List Int) : List Int := (List.range n).map fun (i : Nat) => endFrom (i : Int) 0 0 order
theorem endsP_length (n : Nat) (order : List Int) : (endsP n order).length = n := by unfold endsP; simp
theorem endsP_get (n : Nat) (order : List Int) (i : Nat) (h : i < n) : (endsP n order).getD i 0 = endFrom (i : Int) 0 0 order := by
  rw [getD_lt (by rw [endsP_length]; exact h)]
  unfold endsP
  rw [List.getElem_map, List.getElem_range]
theorem endFrom_bound (w : Int) : ∀ (order : List Int) (t e : Int), 0 ≤ t → 0 ≤ e → e ≤ t → 0 ≤ endFrom w t e order ∧ endFrom w t e order ≤ t + order.length := by
  intro order
  induction order with
  | nil => intro t e h0 h1 h2; simp [endFrom]; omega
  | cons x xs ih =>
    intro t e h0 h1 h2
    have := ih (t + 1) (if x = w then t + 1 else e) (by omega) (by split <;> omega) (by split <;> omega)
    simp only [endFrom, List.length_cons]
    omega
theorem list_ext_getD {a b : List Int} (h : a.length = b.length) (hg : ∀ i, i < a.length → a.getD i 0 = b.getD i 0) : a = b := by
  apply List.ext_getElem h
  intro i h1 h2
  have := hg i h1
  rw [getD_lt h1, getD_lt h2] at this
  exact this
theorem impl_endsOf_loop (n : Nat) (order : List Int) (ho : order.length ≤ 1048576) (hw : ∀ w ∈ order, w < (n : Int)) : ∀ (suf : List Int) (i k : Nat) (X : List Int), order.drop i = suf → suf.length < k → i ≤ order.length → X.length = n →
    ∃ r, impl_endsOf.l0 k X order (order.length : Int) i = some r ∧ r.length = n ∧ ∀ j, j < n → r.getD j 0 = endFrom (j : Int) i (X.getD j 0) suf := by
  intro suf
  induction suf with
  | nil =>
    intro i k X hd hk hi hX
    obtain ⟨k, rfl⟩ : ∃ m, k = m + 1 := ⟨k - 1, by omega⟩
    have := drop_nil hd
    simp only [impl_endsOf.l0]
    rw [if_neg (by omega)]
    exact ⟨X, rfl, hX, fun j hj => rfl⟩
  | cons x xs ih =>
    intro i k X hd hk hi hX
    obtain ⟨k, rfl⟩ : ∃ m, k = m + 1 := ⟨k - 1, by omega⟩
    obtain ⟨hlt, hd2, hx⟩ := drop_split hd
    have hxn := hw x (by rw [← hx 0]; exact getD_mem hlt _)
    simp only [List.length_cons] at hk
    simp only [impl_endsOf.l0]
    rw [if_pos (by omega), if_pos (by omega), if_pos (by omega), rd_nat, hx, w64s i (by omega)]
    by_cases h : x ≥ 0
    · rw [if_pos h, if_pos (show (0 : Int) ≤ x from h), if_pos (by omega)]
      obtain ⟨r, e, hl, hr⟩ := ih (i + 1) k (X.set x.toNat ((i + 1 : Nat) : Int)) hd2 (by omega) (by omega) (by rw [List.length_set]; exact hX)
      refine ⟨r, e, hl, fun j hj => ?_⟩
      rw [hr j hj]
      simp only [endFrom]
      rw [show ((i + 1 : Nat) : Int) = (i : Int) + 1 from by omega]
      congr 1
      by_cases e2 : x = (j : Int)
      · rw [if_pos e2, show x.toNat = j from by omega, getD_set_eq _ _ _ _ (by omega)]
      · rw [if_neg e2, getD_set_ne _ _ _ _ _ (by omega)]
    · rw [if_neg h]
      obtain ⟨r, e, hl, hr⟩ := ih (i + 1) k X hd2 (by omega) (by omega) hX
      refine ⟨r, e, hl, fun j hj => ?_⟩
      rw [hr j hj]
      simp only [endFrom]
      rw [if_neg (by omega), show ((i + 1 : Nat) : Int) = (i : Int) + 1 from by omega]
theorem impl_endsOf_is (l : List S43) (order : List Int) (hl : l.length ≤ 1048576) (ho : order.length ≤ 1048576) (hw : ∀ w ∈ order, w < (l.length : Int)) (k : Nat) (hk : order.length < k) : impl_endsOf.f k l order = some (endsP l.length order) := by
  unfold impl_endsOf.f
  rw [if_pos (by omega), if_pos (by omega)]
  obtain ⟨r, e, hr, hg⟩ := impl_endsOf_loop l.length order ho hw order 0 k (List.replicate ((l.length : Int)).toNat 0) rfl hk (by omega) (by simp)
  rw [show ((0 : Nat) : Int) = 0 from rfl] at e
  rw [e]
  congr 1
  refine list_ext_getD (by rw [hr, endsP_length]) (fun i hi => ?_)
  rw [hr] at hi
  rw [hg i hi, endsP_get _ _ _ hi]
  congr 1
  rw [getD_lt (by simp; omega), List.getElem_replicate]

/-! ends_spec -/
theorem spec_EndsOf_inner (l : List S43) (order : List Int) (ho : order.length ≤ 1048576) (out : List Int) (w : Nat) (hout : out.length ≤ 100) (r : List Int) (K : Nat) (hw8 : w ≤ 100) : ∀ (suf : List Int) (i k : Nat) (e : Int), order.drop i = suf → K + suf.length + 1 ≤ k → i ≤ order.length →
    (∀ k', K ≤ k' → spec_EndsOf.l0 k' l order (out ++ [endFrom (w : Int) i e suf]) ((w + 1 : Nat) : Int) = some r) → spec_EndsOf.l1 k l order out w e i = some r := by
  intro suf
  induction suf with
  | nil =>
    intro i k e hd hk hi h
    obtain ⟨k, rfl⟩ : ∃ m, k = m + 1 := ⟨k - 1, by omega⟩
    have := drop_nil hd
    rw [spec_EndsOf.l1]
    rw [if_neg (by omega), if_pos (by omega), w64s w (by omega)]
    exact h k (by simp at hk; omega)
  | cons x xs ih =>
    intro i k e hd hk hi h
    obtain ⟨k, rfl⟩ : ∃ m, k = m + 1 := ⟨k - 1, by omega⟩
    obtain ⟨hlt, hd2, hx⟩ := drop_split hd
    simp only [List.length_cons] at hk
    rw [spec_EndsOf.l1]
    rw [if_pos (by omega), if_pos (by omega), rd_nat, hx, w64s i (by omega)]
    simp only [endFrom] at h
    rw [show (i : Int) + 1 = ((i + 1 : Nat) : Int) from by omega] at h
    by_cases hc : x = (w : Int)
    · rw [if_pos hc]
      rw [if_pos hc] at h
      exact ih (i + 1) k _ hd2 (by omega) (by omega) h
    · rw [if_neg hc]
      rw [if_neg hc] at h
      exact ih (i + 1) k _ hd2 (by omega) (by omega) h
theorem spec_EndsOf_loop (l : List S43) (order : List Int) (hok : orderOk l order = true) : ∀ (d i k : Nat) (out : List Int), i + d = l.length → 210 * d + 500 ≤ k → out = endsP i order → spec_EndsOf.l0 k l order out i = some (endsP l.length order) := by
  obtain ⟨h1, h2, h3⟩ := orderOk_parts hok
  have h8 := custOk_len h1
  intro d
  induction d with
  | zero =>
    intro i k out he hk ho
    obtain ⟨k, rfl⟩ : ∃ m, k = m + 2 := ⟨k - 2, by omega⟩
    rw [spec_EndsOf.l0]
    rw [if_neg (by omega), spec_EndsOf.j1, if_neg (by simp), ho, show i = l.length from by omega]
  | succ d ih =>
    intro i k out he hk ho
    obtain ⟨k, rfl⟩ : ∃ m, k = m + 2 := ⟨k - 2, by omega⟩
    have hol : out.length = i := by rw [ho, endsP_length]
    rw [spec_EndsOf.l0]
    rw [if_pos (by omega), spec_OrderOk_is l order (by omega) (by omega) _ (by omega), hok]
    simp only [Option.bind_some]
    rw [spec_EndsOf.j1, if_pos rfl]
    refine spec_EndsOf_inner l order (by omega) out i (by omega) _ (210 * d + 500) (by omega) order 0 k 0 rfl (by omega) (by omega) (fun k' hk' => ?_)
    refine ih (i + 1) k' _ (by omega) hk' ?_
    rw [ho]
    unfold endsP
    rw [List.range_succ, List.map_append]
    rfl
theorem spec_EndsOf_is (l : List S43) (order : List Int) (hl : l.length ≤ 1048576) (ho : order.length ≤ 1048576) (k : Nat) (hk : 2 * order.length + 3 * l.length + 2500 ≤ k) : spec_EndsOf.f k l order = some (if orderOk l order = true then endsP l.length order else []) := by
  unfold spec_EndsOf.f
  by_cases hok : orderOk l order = true
  · have h8 := custOk_len (orderOk_parts hok).1
    rw [if_pos hok]
    exact spec_EndsOf_loop l order hok l.length 0 k [] (by omega) (by omega) rfl
  · rw [if_neg hok]
    obtain ⟨k, rfl⟩ : ∃ m, k = m + 2 := ⟨k - 2, by omega⟩
    rw [spec_EndsOf.l0]
    by_cases h : (0 : Int) < (l.length : Int)
    · rw [if_pos h, spec_OrderOk_is l order hl ho _ (by omega), Bool.not_eq_true _ |>.mp hok]
      simp only [Option.bind_some]
      rw [spec_EndsOf.j1, if_neg (by simp)]
    · rw [if_neg h, spec_EndsOf.j1, if_neg (by simp)]

/-! ahead -/
/-- The greatest difference on the way, from one beginning on. -/
def innerP (a b : Int) : List Int → Int → Int → Int
  | [], _, best => best
  | x :: xs, n, best => innerP a b xs (n + (if x = a then 1 else 0) - (if x = b then 1 else 0)) (max (max best (n + (if x = a then 1 else 0) - (if x = b then 1 else 0))) (-(n + (if x = a then 1 else 0) - (if x = b then 1 else 0))))
def outerP (a b : Int) : List Int → Int → Int
  | [], best => best
  | x :: xs, best => outerP a b xs (innerP a b (x :: xs) 0 best)
/-- What of an order lies between two times. -/
def segP (order : List Int) (s e : Nat) : List Int := (order.drop s).take (e - s)
def aheadP (l : List S43) (order : List Int) (a b : Int) : Int :=
  if orderOk l order = true ∧ (0 ≤ a ∧ a ≤ (l.length : Int) - 1) ∧ 0 ≤ b ∧ b ≤ (l.length : Int) - 1 then
    outerP a b (segP order (max (l.getD a.toNat z43).f0 (l.getD b.toNat z43).f0).toNat (min (endFrom a 0 0 order) (endFrom b 0 0 order)).toNat) 0
  else -1
theorem innerP_ge (a b : Int) : ∀ (xs : List Int) (n best : Int), best ≤ innerP a b xs n best := by
  intro xs
  induction xs with
  | nil => intro n best; exact Int.le_refl _
  | cons x xs ih => intro n best; simp only [innerP]; refine Int.le_trans ?_ (ih _ _); omega
theorem innerP_le (a b : Int) : ∀ (xs : List Int) (n best B : Int), best ≤ B → n + xs.length ≤ B → -n + xs.length ≤ B → innerP a b xs n best ≤ B := by
  intro xs
  induction xs with
  | nil => intro n best B h _ _; exact h
  | cons x xs ih =>
    intro n best B h h1 h2
    simp only [innerP, List.length_cons] at *
    refine ih _ _ B ?_ ?_ ?_ <;> split <;> split <;> omega
theorem outerP_le (a b : Int) : ∀ (xs : List Int) (best B : Int), best ≤ B → (xs.length : Int) ≤ B → outerP a b xs best ≤ B := by
  intro xs
  induction xs with
  | nil => intro best B h _; exact h
  | cons x xs ih =>
    intro best B h h1
    simp only [outerP]
    refine ih _ B (innerP_le a b _ 0 best B h (by omega) (by omega)) (by simp only [List.length_cons] at h1; omega)
theorem outerP_ge (a b : Int) : ∀ (xs : List Int) (best : Int), best ≤ outerP a b xs best := by
  intro xs
  induction xs with
  | nil => intro best; exact Int.le_refl _
  | cons x xs ih => intro best; simp only [outerP]; exact Int.le_trans (innerP_ge a b _ 0 best) (ih _)
theorem seg_cons (order : List Int) (s e : Nat) (h : s < e) (he : e ≤ order.length) : segP order s e = order.getD s 0 :: segP order (s + 1) e := by
  unfold segP
  have hs : s < order.length := by omega
  have hdr : order.drop s = order.getD s 0 :: order.drop (s + 1) := by rw [getD_lt hs]; exact List.drop_eq_getElem_cons hs
  rw [hdr, show e - s = (e - (s + 1)) + 1 from by omega, List.take_succ_cons]
theorem seg_nil (order : List Int) (s e : Nat) (h : e ≤ s) : segP order s e = [] := by
  unfold segP
  rw [show e - s = 0 from by omega, List.take_zero]
theorem seg_length (order : List Int) (s e : Nat) : (segP order s e).length ≤ e - s := by unfold segP; rw [List.length_take]; omega

/-! ahead_spec -/
theorem spec_Ahead_inner (order ends : List Int) (a b : Int) (ha : 0 ≤ a ∧ a < (ends.length : Int)) (hb : 0 ≤ b ∧ b < (ends.length : Int)) (last : Nat) (hlast : min (rd ends a) (rd ends b) = (last : Int)) (hlo : last ≤ order.length) (hl200 : last ≤ 200) (s : Nat) (r : Int) (K : Nat) :
    ∀ (d i k : Nat) (n best : Int), i + d = last ∨ (d = 0 ∧ last ≤ i) → K + d + 1 ≤ k → -1000 - (i : Int) ≤ n → n ≤ 1000 + i → s ≤ 400 → i ≤ 400 → 
    (∀ k', K ≤ k' → spec_AheadBy.l0 k' order a b ends (innerP a b (segP order i last) n best) ((s + 1 : Nat) : Int) = some r) → spec_AheadBy.l1 k order a b ends best s n i = some r := by
  intro d
  induction d with
  | zero =>
    intro i k n best he hk h1 h2 hs hi h
    obtain ⟨k, rfl⟩ : ∃ m, k = m + 1 := ⟨k - 1, by omega⟩
    rw [seg_nil _ _ _ (by omega)] at h
    rw [spec_AheadBy.l1]
    rw [if_pos ha.1, if_pos ha.2, if_pos hb.1, if_pos hb.2, mn_min, hlast, if_neg (by omega), w64s s (by omega)]
    exact h k (by omega)
  | succ d ih =>
    intro i k n best he hk h1 h2 hs hi h
    obtain ⟨k, rfl⟩ : ∃ m, k = m + 1 := ⟨k - 1, by omega⟩
    rw [seg_cons _ _ _ (by omega) hlo] at h
    simp only [innerP] at h
    have hih := fun n best h1 h2 => ih (i + 1) k n best (by omega) (by omega) h1 h2 hs (by omega)
    rw [spec_AheadBy.l1]
    rw [if_pos ha.1, if_pos ha.2, if_pos hb.1, if_pos hb.2, mn_min, hlast, if_pos (by omega), if_pos (by omega), if_pos (by omega), rd_nat, w64s i (by omega)]
    by_cases hA : order.getD i 0 = a
    · by_cases hB : order.getD i 0 = b
      · rw [if_pos hA, if_pos hB] at h
        rw [if_pos hA, if_pos hB, show wrap64 (wrap64 (n + 1) - 1) = n + 1 - 1 from by rw [show wrap64 (n + 1) = n + 1 from w64 (by omega) (by omega)]; exact w64 (by omega) (by omega), show wrap64 (-(n + 1 - 1)) = -(n + 1 - 1) from w64 (by omega) (by omega), mx_max, mx_max]
        exact hih _ _ (by omega) (by omega) h
      · rw [if_pos hA, if_neg hB] at h
        rw [if_pos hA, if_neg hB, show wrap64 (n + 1) = n + 1 - 0 from by rw [w64 (by omega) (by omega)]; omega, show wrap64 (-(n + 1 - 0)) = -(n + 1 - 0) from w64 (by omega) (by omega), mx_max, mx_max]
        exact hih _ _ (by omega) (by omega) h
    · by_cases hB : order.getD i 0 = b
      · rw [if_neg hA, if_pos hB] at h
        rw [if_neg hA, if_pos hB, show wrap64 (n - 1) = n + 0 - 1 from by rw [w64 (by omega) (by omega)]; omega, show wrap64 (-(n + 0 - 1)) = -(n + 0 - 1) from w64 (by omega) (by omega), mx_max, mx_max]
        exact hih _ _ (by omega) (by omega) h
      · rw [if_neg hA, if_neg hB, show n + 0 - 0 = n from by omega] at h
        rw [if_neg hA, if_neg hB, show wrap64 (-n) = -n from w64 (by omega) (by omega), mx_max, mx_max]
        exact hih _ _ (by omega) (by omega) h
theorem spec_Ahead_loop (order ends : List Int) (a b : Int) (ha : 0 ≤ a ∧ a < (ends.length : Int)) (hb : 0 ≤ b ∧ b < (ends.length : Int)) (last : Nat) (hlast : min (rd ends a) (rd ends b) = (last : Int)) (hlo : last ≤ order.length) (hl200 : last ≤ 200) :
    ∀ (d i k : Nat) (best : Int), i + d = last ∨ (d = 0 ∧ last ≤ i) → 210 * d + 1 ≤ k → i ≤ 400 → spec_AheadBy.l0 k order a b ends best i = some (outerP a b (segP order i last) best) := by
  intro d
  induction d with
  | zero =>
    intro i k best he hk hi
    obtain ⟨k, rfl⟩ : ∃ m, k = m + 1 := ⟨k - 1, by omega⟩
    rw [spec_AheadBy.l0]
    rw [if_pos ha.1, if_pos ha.2, if_pos hb.1, if_pos hb.2, mn_min, hlast, if_neg (by omega), seg_nil _ _ _ (by omega)]
    rfl
  | succ d ih =>
    intro i k best he hk hi
    obtain ⟨k, rfl⟩ : ∃ m, k = m + 1 := ⟨k - 1, by omega⟩
    rw [spec_AheadBy.l0]
    rw [if_pos ha.1, if_pos ha.2, if_pos hb.1, if_pos hb.2, mn_min, hlast, if_pos (by omega)]
    refine spec_Ahead_inner order ends a b ha hb last hlast hlo hl200 i _ (210 * d + 1) (d + 1) i k 0 best (by omega) (by omega) (by omega) (by omega) (by omega) (by omega) (fun k' hk' => ?_)
    rw [ih (i + 1) k' _ (by omega) hk' (by omega), seg_cons order i last (by omega) hlo]
    rfl
theorem spec_AheadBy_is (l : List S43) (order : List Int) (hl : l.length ≤ 1048576) (ho : order.length ≤ 1048576) (a b : Int) (k : Nat) (hk : 2 * order.length + 3 * l.length + 50000 ≤ k) : spec_AheadBy.f k l order a b = some (aheadP l order a b) := by
  obtain ⟨k, rfl⟩ : ∃ m, k = m + 1 := ⟨k - 1, by omega⟩
  have neg : spec_AheadBy.j0 (k + 1) l order a b true = some (-1) := by simp [spec_AheadBy.j0]
  unfold spec_AheadBy.f aheadP
  rw [spec_OrderOk_is l order hl ho (k + 1) (by omega), spec_l1In_is, spec_l1In_is, neg, show wrap64 ((l.length : Int) - 1) = (l.length : Int) - 1 from w64 (by omega) (by omega)]
  simp only [Option.bind_some, decide_eq_true_eq]
  by_cases h : orderOk l order = true
  · rw [if_pos h]
    by_cases h1 : 0 ≤ a ∧ a ≤ (l.length : Int) - 1
    · rw [if_pos h1]
      by_cases h2 : 0 ≤ b ∧ b ≤ (l.length : Int) - 1
      · rw [decide_eq_true h2, if_pos ⟨h, h1, h2⟩]
        obtain ⟨p1, p2, p3⟩ := orderOk_parts h
        have hA := custOk_mem p1 (l.getD a.toNat z43) (getD_mem (by omega) _)
        have hB := custOk_mem p1 (l.getD b.toNat z43) (getD_mem (by omega) _)
        have ea : rd (endsP l.length order) a = endFrom a 0 0 order := by unfold rd; rw [endsP_get _ _ _ (by omega), show ((a.toNat : Nat) : Int) = a from by omega]
        have eb : rd (endsP l.length order) b = endFrom b 0 0 order := by unfold rd; rw [endsP_get _ _ _ (by omega), show ((b.toNat : Nat) : Int) = b from by omega]
        have ba := endFrom_bound a order 0 0 (by omega) (by omega) (by omega)
        have bb := endFrom_bound b order 0 0 (by omega) (by omega) (by omega)
        simp only [spec_AheadBy.j0, Bool.not_true]
        rw [if_neg (by simp), spec_EndsOf_is l order hl ho k (by omega), if_pos h]
        simp only [Option.bind_some]
        rw [if_pos h1.1, if_pos (by omega), if_pos h2.1, if_pos (by omega), mx_max]
        rw [show rd_T43 l a = l.getD a.toNat z43 from rfl, show rd_T43 l b = l.getD b.toNat z43 from rfl]
        have hloop := spec_Ahead_loop order (endsP l.length order) a b ⟨h1.1, by rw [endsP_length]; omega⟩ ⟨h2.1, by rw [endsP_length]; omega⟩ (min (endFrom a 0 0 order) (endFrom b 0 0 order)).toNat (by rw [ea, eb]; omega) (by omega) (by omega) ((min (endFrom a 0 0 order) (endFrom b 0 0 order)).toNat - (max (l.getD a.toNat z43).f0 (l.getD b.toNat z43).f0).toNat) (max (l.getD a.toNat z43).f0 (l.getD b.toNat z43).f0).toNat k 0 (by omega) (by omega) (by omega)
        rw [show (((max (l.getD a.toNat z43).f0 (l.getD b.toNat z43).f0).toNat : Nat) : Int) = max (l.getD a.toNat z43).f0 (l.getD b.toNat z43).f0 from by omega] at hloop
        exact hloop
      · rw [decide_eq_false h2, Bool.not_false, neg, if_neg (fun h => h2 h.2.2)]
    · rw [if_neg h1, if_neg (fun h => h1 h.2.1)]
  · rw [if_neg h, if_neg (fun hh => h hh.1)]

/-! ahead_impl -/
/-- The difference of units from s up to t. -/
theorem diff_next (order : List Int) (a b : Int) (s t : Nat) (hst : s ≤ t) (ht : t < order.length) : unitsP order a s (t + 1) - unitsP order b s (t + 1) = (unitsP order a s t - unitsP order b s t) + (if order.getD t 0 = a then 1 else 0) - (if order.getD t 0 = b then 1 else 0) := by
  have one : ∀ w, unitsP order w t (t + 1) = if order.getD t 0 = w then 1 else 0 := by
    intro w
    unfold unitsP
    have hdr : order.drop t = order.getD t 0 :: order.drop (t + 1) := by rw [getD_lt ht]; exact List.drop_eq_getElem_cons ht
    rw [show t + 1 - t = 1 from by omega, hdr, List.take_succ_cons, List.take_zero]
    simp only [cntW]
    omega
  rw [unitsP_split order a s t (t + 1) hst (by omega), unitsP_split order b s t (t + 1) hst (by omega), one a, one b]
  omega
theorem impl_Ahead_inner (order : List Int) (a b : Int) (ho : order.length ≤ 200) (last : Nat) (hlo : last ≤ order.length) (s : Nat) (hs : s ≤ 400) (r : Int) (K : Nat) (hK : 2020 ≤ K) :
    ∀ (d i k : Nat) (best : Int), i + d = last → K + d + 2 ≤ k → s ≤ i → 
    (∀ k', K ≤ k' → impl_AheadBy.l0 k' order a b (innerP a b (segP order i last) (unitsP order a s i - unitsP order b s i) (max (max best (unitsP order a s i - unitsP order b s i)) (-(unitsP order a s i - unitsP order b s i)))) (last : Int) ((s + 1 : Nat) : Int) = some r) → impl_AheadBy.l1 k order a b best (last : Int) s i = some r := by
  intro d
  induction d with
  | zero =>
    intro i k best he hk hsi h
    obtain ⟨k, rfl⟩ : ∃ m, k = m + 1 := ⟨k - 1, by omega⟩
    have h1 := unitsP_bound order a s i hsi
    have h2 := unitsP_bound order b s i hsi
    rw [seg_nil _ _ _ (by omega)] at h
    simp only [innerP] at h
    rw [impl_AheadBy.l1]
    rw [if_pos (by omega), impl_unitsIn_is order a (by omega) s i (by omega) _ (by omega), impl_unitsIn_is order b (by omega) s i (by omega) _ (by omega)]
    simp only [Option.bind_some]
    rw [show wrap64 (unitsP order a s i - unitsP order b s i) = unitsP order a s i - unitsP order b s i from w64 (by omega) (by omega), show wrap64 (-(unitsP order a s i - unitsP order b s i)) = -(unitsP order a s i - unitsP order b s i) from w64 (by omega) (by omega), w64s i (by omega), mx_max, mx_max]
    obtain ⟨k, rfl⟩ : ∃ m, k = m + 1 := ⟨k - 1, by omega⟩
    rw [impl_AheadBy.l1]
    rw [if_neg (by omega), w64s s (by omega)]
    exact h k (by omega)
  | succ d ih =>
    intro i k best he hk hsi h
    obtain ⟨k, rfl⟩ : ∃ m, k = m + 1 := ⟨k - 1, by omega⟩
    have h1 := unitsP_bound order a s i hsi
    have h2 := unitsP_bound order b s i hsi
    rw [impl_AheadBy.l1]
    rw [if_pos (by omega), impl_unitsIn_is order a (by omega) s i (by omega) _ (by omega), impl_unitsIn_is order b (by omega) s i (by omega) _ (by omega)]
    simp only [Option.bind_some]
    rw [show wrap64 (unitsP order a s i - unitsP order b s i) = unitsP order a s i - unitsP order b s i from w64 (by omega) (by omega), show wrap64 (-(unitsP order a s i - unitsP order b s i)) = -(unitsP order a s i - unitsP order b s i) from w64 (by omega) (by omega), w64s i (by omega), mx_max, mx_max]
    refine ih (i + 1) k _ (by omega) (by omega) (by omega) (fun k' hk' => ?_)
    have := h k' hk'
    rw [seg_cons order i last (by omega) hlo] at this
    simp only [innerP] at this
    rw [diff_next order a b s i hsi (by omega)]
    exact this
theorem impl_Ahead_loop (order : List Int) (a b : Int) (ho : order.length ≤ 200) (last : Nat) (hlo : last ≤ order.length) :
    ∀ (d i k : Nat) (best : Int), i + d = last + 1 ∨ (d = 0 ∧ last < i) → 210 * d + 2100 ≤ k → i ≤ 400 → 0 ≤ best → impl_AheadBy.l0 k order a b best (last : Int) i = some (outerP a b (segP order i last) best) := by
  intro d
  induction d with
  | zero =>
    intro i k best he hk hi h0
    obtain ⟨k, rfl⟩ : ∃ m, k = m + 1 := ⟨k - 1, by omega⟩
    rw [impl_AheadBy.l0]
    rw [if_neg (by omega), seg_nil _ _ _ (by omega)]
    rfl
  | succ d ih =>
    intro i k best he hk hi h0
    obtain ⟨k, rfl⟩ : ∃ m, k = m + 1 := ⟨k - 1, by omega⟩
    rw [impl_AheadBy.l0]
    rw [if_pos (by omega)]
    have z : ∀ w, unitsP order w i i = 0 := by intro w; unfold unitsP; rw [Nat.sub_self, List.take_zero]; rfl
    refine impl_Ahead_inner order a b ho last hlo i (by omega) _ (210 * d + 2100) (by omega) (last - i) i k best (by omega) (by omega) (by omega) (fun k' hk' => ?_)
    rw [z a, z b, show (0 : Int) - 0 = 0 from rfl, show max (max best 0) (-0) = best from by omega]
    rw [ih (i + 1) k' _ (by omega) hk' (by omega) (Int.le_trans h0 (innerP_ge a b _ 0 best))]
    by_cases hlt : i < last
    · rw [seg_cons order i last hlt hlo]; rfl
    · rw [seg_nil order i last (by omega), seg_nil order (i + 1) last (by omega)]; rfl
theorem impl_AheadBy_is (l : List S43) (order : List Int) (hl : l.length ≤ 1048576) (a b : Int) (k : Nat) (hk : l.length + 50000 ≤ k) : impl_AheadBy.f k l order a b = some (aheadP l order a b) := by
  obtain ⟨k, rfl⟩ : ∃ m, k = m + 1 := ⟨k - 1, by omega⟩
  have neg : impl_AheadBy.j0 (k + 1) l order a b true = some (-1) := by simp [impl_AheadBy.j0]
  unfold impl_AheadBy.f aheadP
  rw [impl_OrderOk_is l order hl (k + 1) (by omega), neg]
  simp only [Option.bind_some]
  by_cases h : orderOk l order = true
  · rw [if_pos h]
    by_cases h1 : a < 0
    · rw [if_pos h1, if_neg (fun h => by omega)]
    rw [if_neg h1]
    by_cases h2 : a ≥ (l.length : Int)
    · rw [if_pos h2, if_neg (fun h => by omega)]
    rw [if_neg h2]
    by_cases h3 : b < 0
    · rw [if_pos h3, if_neg (fun h => by omega)]
    rw [if_neg h3]
    by_cases h4 : b ≥ (l.length : Int)
    · rw [decide_eq_true h4, neg, if_neg (fun h => by omega)]
    obtain ⟨p1, p2, p3⟩ := orderOk_parts h
    have hA := custOk_mem p1 (l.getD a.toNat z43) (getD_mem (by omega) _)
    have hB := custOk_mem p1 (l.getD b.toNat z43) (getD_mem (by omega) _)
    have ea : rd (endsP l.length order) a = endFrom a 0 0 order := by unfold rd; rw [endsP_get _ _ _ (by omega), show ((a.toNat : Nat) : Int) = a from by omega]
    have eb : rd (endsP l.length order) b = endFrom b 0 0 order := by unfold rd; rw [endsP_get _ _ _ (by omega), show ((b.toNat : Nat) : Int) = b from by omega]
    have ba := endFrom_bound a order 0 0 (by omega) (by omega) (by omega)
    have bb := endFrom_bound b order 0 0 (by omega) (by omega) (by omega)
    rw [decide_eq_false h4, if_pos ⟨h, by omega, by omega, by omega⟩]
    simp only [impl_AheadBy.j0]
    rw [if_neg (by simp), impl_endsOf_is l order hl (by omega) (fun w hw => (orderOk_mem h w hw).2) k (by omega)]
    simp only [Option.bind_some]
    rw [if_pos (show (0 : Int) ≤ a by omega), if_pos (show a < (l.length : Int) by omega), if_pos (show (0 : Int) ≤ b by omega), if_pos (show b < (l.length : Int) by omega), endsP_length, if_pos (show a < (l.length : Int) by omega), if_pos (show b < (l.length : Int) by omega), mx_max, mn_min, ea, eb]
    rw [show rd_T43 l a = l.getD a.toNat z43 from rfl, show rd_T43 l b = l.getD b.toNat z43 from rfl]
    have hloop := impl_Ahead_loop order a b p2 (min (endFrom a 0 0 order) (endFrom b 0 0 order)).toNat (by omega) ((min (endFrom a 0 0 order) (endFrom b 0 0 order)).toNat + 1 - (max (l.getD a.toNat z43).f0 (l.getD b.toNat z43).f0).toNat) (max (l.getD a.toNat z43).f0 (l.getD b.toNat z43).f0).toNat k 0 (by omega) (by omega) (by omega) (by omega)
    rw [show (((max (l.getD a.toNat z43).f0 (l.getD b.toNat z43).f0).toNat : Nat) : Int) = max (l.getD a.toNat z43).f0 (l.getD b.toNat z43).f0 from by omega, show (((min (endFrom a 0 0 order) (endFrom b 0 0 order)).toNat : Nat) : Int) = min (endFrom a 0 0 order) (endFrom b 0 0 order) from by omega] at hloop
    exact hloop
  · rw [if_neg h, if_neg (fun hh => h hh.1)]

/-! setdrop -/
theorem set_append_drop {α : Type} (X : List α) (v : α) {i : Nat} (h : i < X.length) : (X.set i v).take (i + 1) = X.take i ++ [v] ∧ (X.set i v).drop (i + 1) = X.drop (i + 1) := by
  constructor
  · rw [List.take_succ_eq_append_getElem (by rw [List.length_set]; exact h), List.take_set_of_le (Nat.le_refl _), List.getElem_set_self]
  · rw [List.drop_set_of_lt (by omega)]

/-! exactcust -/
theorem szCustomerS_is (l : List S53) (hl : l.length ≤ maxLen) (a : Int) (h0 : 0 ≤ a) (h1 : a ≤ 1048576) : laws_szCustomerS.f l a = some (if (l.length : Int) ≤ a then a - l.length else -1) := by
  unfold maxLen at hl
  unfold laws_szCustomerS.f
  rw [show wrap64 (a - (l.length : Int)) = a - l.length from w64 (by omega) (by omega)]
  by_cases h : (l.length : Int) ≤ a
  · rw [if_neg (by omega), if_pos h]
  · rw [if_pos (by omega), if_neg h]
def toC (c : S53) : S43 := ⟨c.f0, c.f1⟩
theorem rd_LCustomer_nat (l : List S53) (i : Nat) : rd_T53 l (i : Int) = l.getD i z53 := by
  unfold rd_T53
  rw [Int.toNat_natCast]
theorem toCustomerS_loop (l : List S53) (hl : l.length ≤ 1048576) : ∀ (suf : List S53) (i k : Nat) (X : List S43), l.drop i = suf → suf.length < k → i ≤ l.length → X.length = l.length →
    laws_toCustomerS.l0 k l X i = some (X.take i ++ suf.map toC) := by
  intro suf
  induction suf with
  | nil =>
    intro i k X hd hk hi hX
    obtain ⟨k, rfl⟩ : ∃ m, k = m + 1 := ⟨k - 1, by omega⟩
    have := drop_nil hd
    simp only [laws_toCustomerS.l0]
    rw [if_neg (by omega), List.take_of_length_le (by omega)]
    simp
  | cons x xs ih =>
    intro i k X hd hk hi hX
    obtain ⟨k, rfl⟩ : ∃ m, k = m + 1 := ⟨k - 1, by omega⟩
    obtain ⟨hlt, hd2, hx⟩ := drop_split hd
    simp only [laws_toCustomerS.l0, laws_toCustomer.f, Option.bind_some]
    rw [if_pos (by omega), if_pos (by omega), if_pos (by omega), rd_LCustomer_nat, hx, w64s i (by omega), Int.toNat_natCast]
    obtain ⟨e1, -⟩ := set_append_drop X (⟨x.f0, x.f1⟩ : S43) (i := i) (by omega)
    rw [ih (i + 1) k _ hd2 (by simp at hk; omega) (by omega) (by rw [List.length_set]; exact hX), e1]
    simp [toC]
theorem toCustomerS_is (l : List S53) (hl : l.length ≤ 1048576) (k : Nat) (hk : l.length < k) : laws_toCustomerS.f k l = some (l.map toC) := by
  unfold laws_toCustomerS.f
  rw [if_pos (by omega), if_pos (by omega)]
  exact toCustomerS_loop l hl l 0 k _ rfl hk (by omega) (by simp)
theorem eqCustomerS_loop (a : List S43) (ha : a.length ≤ 1048576) : ∀ (suf : List S43) (i k : Nat), a.drop i = suf → suf.length < k → laws_eqCustomerS.l0 k a a i = some true := by
  intro suf
  induction suf with
  | nil =>
    intro i k hd hk
    obtain ⟨k, rfl⟩ : ∃ m, k = m + 1 := ⟨k - 1, by omega⟩
    have := drop_nil hd
    simp only [laws_eqCustomerS.l0]
    rw [if_neg (by omega)]
  | cons x xs ih =>
    intro i k hd hk
    obtain ⟨k, rfl⟩ : ∃ m, k = m + 1 := ⟨k - 1, by omega⟩
    obtain ⟨hlt, hd2, hx⟩ := drop_split hd
    have e : ∀ p q, laws_eqCustomer.f p q p q = some true := by intro p q; unfold laws_eqCustomer.f; rw [if_pos rfl, if_pos rfl]
    simp only [laws_eqCustomerS.l0]
    rw [if_pos (by omega), if_pos (by omega), if_pos (by omega), e]
    simp only [Option.bind_some]
    rw [if_pos trivial, w64s i (by omega), ih (i + 1) k hd2 (by simp at hk; omega)]
theorem eqCustomerS_is (a : List S43) (ha : a.length ≤ 1048576) (k : Nat) (hk : a.length < k) : laws_eqCustomerS.f k a a = some true := by
  unfold laws_eqCustomerS.f
  rw [if_pos rfl]
  exact eqCustomerS_loop a ha a 0 k rfl hk

/-! toint -/
theorem toIntS_loop (l : List Int) (hl : l.length ≤ 1048576) : ∀ (suf : List Int) (i k : Nat) (X : List Int), l.drop i = suf → suf.length < k → i ≤ l.length → X.length = l.length →
    laws_toIntS.l0 k l X i = some (X.take i ++ suf) := by
  intro suf
  induction suf with
  | nil =>
    intro i k X hd hk hi hX
    obtain ⟨k, rfl⟩ : ∃ m, k = m + 1 := ⟨k - 1, by omega⟩
    have := drop_nil hd
    simp only [laws_toIntS.l0]
    rw [if_neg (by omega), List.take_of_length_le (by omega)]
    simp
  | cons x xs ih =>
    intro i k X hd hk hi hX
    obtain ⟨k, rfl⟩ : ∃ m, k = m + 1 := ⟨k - 1, by omega⟩
    obtain ⟨hlt, hd2, hx⟩ := drop_split hd
    simp only [laws_toIntS.l0]
    rw [if_pos (by omega), if_pos (by omega), if_pos (by omega), rd_nat, hx, w64s i (by omega), Int.toNat_natCast]
    obtain ⟨e1, -⟩ := set_append_drop X x (i := i) (by omega)
    rw [ih (i + 1) k _ hd2 (by simp at hk; omega) (by omega) (by rw [List.length_set]; exact hX), e1]
    simp
theorem toIntS_is (l : List Int) (hl : l.length ≤ 1048576) (k : Nat) (hk : l.length < k) : laws_toIntS.f k l = some l := by
  unfold laws_toIntS.f
  rw [if_pos (by omega), if_pos (by omega)]
  exact toIntS_loop l hl l 0 k _ rfl hk (by omega) (by simp)

/-! eqint -/
theorem eqIntS_loop (a : List Int) (ha : a.length ≤ 1048576) : ∀ (suf : List Int) (i k : Nat), a.drop i = suf → suf.length < k → laws_eqIntS.l0 k a a i = some true := by
  intro suf
  induction suf with
  | nil =>
    intro i k hd hk
    obtain ⟨k, rfl⟩ : ∃ m, k = m + 1 := ⟨k - 1, by omega⟩
    have := drop_nil hd
    simp only [laws_eqIntS.l0]
    rw [if_neg (by omega)]
  | cons x xs ih =>
    intro i k hd hk
    obtain ⟨k, rfl⟩ : ∃ m, k = m + 1 := ⟨k - 1, by omega⟩
    obtain ⟨hlt, hd2, hx⟩ := drop_split hd
    simp only [laws_eqIntS.l0]
    rw [if_pos (by omega), if_pos (by omega), if_pos (by omega), if_pos trivial, w64s i (by omega), ih (i + 1) k hd2 (by simp at hk; omega)]
theorem eqIntS_is (a : List Int) (ha : a.length ≤ 1048576) (k : Nat) (hk : a.length < k) : laws_eqIntS.f k a a = some true := by
  unfold laws_eqIntS.f
  rw [if_pos rfl]
  exact eqIntS_loop a ha a 0 k rfl hk

/-! law_ExactAheadBy -/
theorem FnExactAheadBy : laws_FnExactAheadBy.Pure := by
  intro l0 row a b hl hr _ _
  by_cases hrb : (row.length : Int) > 1048576
  · refine ⟨0, ?_⟩
    unfold laws_FnExactAheadBy.f
    rw [if_pos hrb]
  by_cases hb : (l0.length : Int) ≤ 1048576
  · have hm : (l0.map toC).length ≤ 1048576 := by rw [List.length_map]; omega
    have hm2 : (l0.map toC).length = l0.length := by rw [List.length_map]
    obtain ⟨K, hK⟩ : ∃ K, K = 2 * row.length + 3 * l0.length + 50010 := ⟨_, rfl⟩
    refine ⟨K, ?_⟩
    unfold laws_FnExactAheadBy.f
    rw [if_neg hrb, szCustomerS_is l0 hl.1 1048576 (by omega) (by omega), if_pos hb]; simp only [Option.bind_some]
    rw [if_neg (by omega), toCustomerS_is l0 (by omega) _ (by omega), toIntS_is row (by omega) _ (by omega)]; simp only [Option.bind_some]
    rw [spec_AheadBy_is _ row hm (by omega) a b _ (by omega)]; simp only [Option.bind_some]
    rw [impl_AheadBy_is _ row hm a b _ (by omega)]; simp only [Option.bind_some]
    rw [if_pos trivial, eqCustomerS_is _ hm _ (by omega), eqIntS_is row (by omega) _ (by omega)]; rfl
  · refine ⟨0, ?_⟩
    unfold laws_FnExactAheadBy.f
    rw [if_neg hrb, szCustomerS_is l0 hl.1 1048576 (by omega) (by omega), if_neg hb]; rfl

end Go.Proofs.Ytbljbcgooenjfaa.Pure
