/- The pure part of the proof of FnExactRoundOrder: the printed functions answer true, for every drawn or given argument within the row's own bounds; no further condition. -/
import Derived.Test.YtbljbcgooenjfaaPFnExactRoundOrderx6
import Derived.Laws.BitsLemmas
namespace Go.Proofs.Ytbljbcgooenjfaa.Pure
open Go.RowKit Go.Proofs.Ytbljbcgooenjfaa.PFnExactRoundOrder Go.Proofs.YtbljbcgooenjfaaW.PrintWords Go.Proofs.YtbljbcgooenjfaaW.PrintLast Go.Proofs.YtbljbcgooenjfaaW.PrintMore
set_option linter.unusedVariables false
set_option linter.unusedSimpArgs false
/-! base -/
theorem w64 {x : Int} (h0 : -9223372036854775808 ≤ x) (h1 : x ≤ 9223372036854775807) : wrap64 x = x := by
  unfold wrap64
  omega
theorem w64s (n : Nat) (h : n ≤ 4611686018427387904) : wrap64 ((n : Int) + 1) = ((n + 1 : Nat) : Int) := by
  unfold wrap64
  omega
theorem drop_split {α : Type} {l : List α} {i : Nat} {x : α} {xs : List α} (h : l.drop i = x :: xs) : i < l.length ∧ l.drop (i + 1) = xs ∧ ∀ d, l.getD i d = x := by
  have hi : i < l.length := by
    have h2 : 0 < (l.drop i).length := by rw [h]; simp
    rw [List.length_drop] at h2
    omega
  rw [List.drop_eq_getElem_cons hi] at h
  injection h with h1 h2
  exact ⟨hi, h2, fun d => by rw [List.getD_eq_getElem?_getD, List.getElem?_eq_getElem hi, h1]; rfl⟩
theorem drop_nil {α : Type} {l : List α} {i : Nat} (h : l.drop i = []) : l.length ≤ i := List.drop_eq_nil_iff.1 h
theorem getD_lt {α : Type} {l : List α} {i : Nat} (h : i < l.length) (d : α) : l.getD i d = l[i] := by
  rw [List.getD_eq_getElem?_getD, List.getElem?_eq_getElem h]; rfl
theorem rd_nat (l : List Int) (i : Nat) : rd l (i : Int) = l.getD i 0 := by
  unfold rd
  rw [Int.toNat_natCast]
theorem getD_mem {α : Type} {l : List α} {i : Nat} (h : i < l.length) (d : α) : l.getD i d ∈ l := by
  rw [getD_lt h]; exact List.getElem_mem h
theorem take_succ_getD {α : Type} {l : List α} {i : Nat} (h : i < l.length) (d : α) : l.take (i + 1) = l.take i ++ [l.getD i d] := by
  rw [getD_lt h, List.take_succ_eq_append_getElem h]
theorem mx_max (a b : Int) : mx a b = max a b := by
  unfold mx; omega
theorem mn_min (a b : Int) : mn a b = min a b := by
  unfold mn; omega
theorem bind_of {α β : Type} {o : Option α} {r : α} {f : α → Option β} {s : Option β} (h : o = some r) (h2 : f r = s) : o.bind f = s := by rw [h]; exact h2
theorem getD_snoc_last {α : Type} (l : List α) (x d : α) {i : Nat} (h : l.length = i) : (l ++ [x]).getD i d = x := by
  subst h
  rw [List.getD_eq_getElem?_getD, List.getElem?_append_right (Nat.le_refl _), Nat.sub_self]
  rfl
theorem getD_snoc_lt {α : Type} (l r : List α) (d : α) {i : Nat} (h : i < l.length) : (l ++ r).getD i d = l.getD i d := by
  rw [List.getD_eq_getElem?_getD, List.getElem?_append_left h, List.getD_eq_getElem?_getD]

/-! l1in -/
theorem spec_l1In_is (a b c : Int) : spec_l1In.f a b c = some (decide (b ≤ a ∧ a ≤ c)) := by
  unfold spec_l1In.f
  by_cases h : a ≥ b
  · rw [if_pos h]
    congr 1
    apply decide_eq_decide.2
    omega
  · rw [if_neg h]
    congr 1
    symm
    exact decide_eq_false (by omega)

/-! customers -/
/-- Customers, as both texts ask: seen from a place on, with the one ahead. -/
def custFrom : Option S43 → List S43 → Bool
  | _, [] => true
  | none, c :: cs => decide (0 ≤ c.f0 ∧ c.f0 ≤ 60 ∧ 1 ≤ c.f1 ∧ c.f1 ≤ 9) && custFrom (some c) cs
  | some p, c :: cs => decide (0 ≤ c.f0 ∧ c.f0 ≤ 60 ∧ 1 ≤ c.f1 ∧ c.f1 ≤ 9 ∧ p.f0 ≤ c.f0) && custFrom (some c) cs
def custOk (l : List S43) : Bool := custFrom none l && decide (l.length ≤ 8)
theorem rd_Customer_nat (l : List S43) (i : Nat) : rd_T43 l (i : Int) = l.getD i z43 := by
  unfold rd_T43
  rw [Int.toNat_natCast]
theorem cust_bad {p : Option S43} {x : S43} {xs : List S43} (h : ¬ (0 ≤ x.f0 ∧ x.f0 ≤ 60 ∧ 1 ≤ x.f1 ∧ x.f1 ≤ 9)) : custFrom p (x :: xs) = false := by
  cases p with
  | none => simp only [custFrom, decide_eq_false h, Bool.false_and]
  | some q => simp only [custFrom, decide_eq_false (show ¬ (0 ≤ x.f0 ∧ x.f0 ≤ 60 ∧ 1 ≤ x.f1 ∧ x.f1 ≤ 9 ∧ q.f0 ≤ x.f0) from fun hh => h ⟨hh.1, hh.2.1, hh.2.2.1, hh.2.2.2.1⟩), Bool.false_and]
theorem cust_bad2 {p x : S43} {xs : List S43} (h : x.f0 < p.f0) : custFrom (some p) (x :: xs) = false := by
  simp only [custFrom, decide_eq_false (show ¬ (0 ≤ x.f0 ∧ x.f0 ≤ 60 ∧ 1 ≤ x.f1 ∧ x.f1 ≤ 9 ∧ p.f0 ≤ x.f0) from fun hh => by omega), Bool.false_and]
theorem impl_CustomersOk_loop (l : List S43) (hl : l.length ≤ 1048576) : ∀ (suf : List S43) (i k : Nat), l.drop i = suf → suf.length < k → i ≤ l.length →
    impl_CustomersOk.l0 k l l (l.length : Int) i = some (custFrom (if i = 0 then none else some (l.getD (i - 1) z43)) suf && decide (l.length ≤ 8)) := by
  intro suf
  induction suf with
  | nil =>
    intro i k hd hk hi
    obtain ⟨k, rfl⟩ : ∃ m, k = m + 1 := ⟨k - 1, by omega⟩
    have := drop_nil hd
    simp only [impl_CustomersOk.l0]
    rw [if_neg (by omega)]
    congr 1
    have e : (decide ((l.length : Int) ≤ 8)) = decide (l.length ≤ 8) := decide_eq_decide.2 (by omega)
    rw [e]
    split <;> simp [custFrom]
  | cons x xs ih =>
    intro i k hd hk hi
    obtain ⟨k, rfl⟩ : ∃ m, k = m + 1 := ⟨k - 1, by omega⟩
    obtain ⟨hlt, hd2, hx⟩ := drop_split hd
    simp only [impl_CustomersOk.l0]
    rw [if_pos (by omega), if_pos (by omega), if_pos (by omega), rd_Customer_nat, hx, w64s i (by omega), ih (i + 1) k hd2 (by simp at hk; omega) (by omega)]
    rw [if_neg (show ¬ i + 1 = 0 by omega), show i + 1 - 1 = i from rfl, hx]
    by_cases h1 : x.f0 < 0
    · rw [if_pos h1, cust_bad (by omega), Bool.false_and]
    rw [if_neg h1]
    by_cases h2 : x.f0 > 60
    · rw [if_pos h2, cust_bad (by omega), Bool.false_and]
    rw [if_neg h2]
    by_cases hi0 : i = 0
    · subst hi0
      rw [if_neg (by omega)]
      by_cases h3 : x.f1 < 1
      · rw [if_pos h3, cust_bad (by omega), Bool.false_and]
      rw [if_neg h3]
      by_cases h4 : x.f1 > 9
      · rw [if_pos h4, cust_bad (by omega), Bool.false_and]
      rw [if_neg h4, if_pos rfl]
      have e : decide (0 ≤ x.f0 ∧ x.f0 ≤ 60 ∧ 1 ≤ x.f1 ∧ x.f1 ≤ 9) = true := decide_eq_true (by omega)
      simp only [custFrom, e, Bool.true_and]
    · rw [if_pos (by omega), show wrap64 ((i : Int) - 1) = ((i - 1 : Nat) : Int) from by rw [w64 (by omega) (by omega)]; omega, if_pos (by omega), if_pos (by omega), rd_Customer_nat, if_neg hi0]
      by_cases h5 : x.f0 < (l.getD (i - 1) z43).f0
      · rw [if_pos h5, cust_bad2 h5, Bool.false_and]
      rw [if_neg h5]
      by_cases h3 : x.f1 < 1
      · rw [if_pos h3, cust_bad (by omega), Bool.false_and]
      rw [if_neg h3]
      by_cases h4 : x.f1 > 9
      · rw [if_pos h4, cust_bad (by omega), Bool.false_and]
      rw [if_neg h4]
      have e : decide (0 ≤ x.f0 ∧ x.f0 ≤ 60 ∧ 1 ≤ x.f1 ∧ x.f1 ≤ 9 ∧ (l.getD (i - 1) z43).f0 ≤ x.f0) = true := decide_eq_true (by omega)
      simp only [custFrom, e, Bool.true_and]
theorem impl_CustomersOk_is (l : List S43) (hl : l.length ≤ 1048576) (k : Nat) (hk : l.length < k) : impl_CustomersOk.f k l = some (custOk l) := by
  unfold impl_CustomersOk.f
  exact impl_CustomersOk_loop l hl l 0 k rfl hk (by omega)

/-! custspec -/
theorem spec_CustomersOk_loop (l : List S43) (hl : l.length ≤ 1048576) : ∀ (suf : List S43) (i k : Nat), l.drop i = suf → suf.length < k → i ≤ l.length →
    spec_CustomersOk.l0 k l i = some (custFrom (if i = 0 then none else some (l.getD (i - 1) z43)) suf && decide (l.length ≤ 8)) := by
  intro suf
  induction suf with
  | nil =>
    intro i k hd hk hi
    obtain ⟨k, rfl⟩ : ∃ m, k = m + 1 := ⟨k - 1, by omega⟩
    have := drop_nil hd
    simp only [spec_CustomersOk.l0]
    rw [if_neg (by omega)]
    congr 1
    have e : (decide ((l.length : Int) ≤ 8)) = decide (l.length ≤ 8) := decide_eq_decide.2 (by omega)
    rw [e]
    split <;> simp [custFrom]
  | cons x xs ih =>
    intro i k hd hk hi
    obtain ⟨k, rfl⟩ : ∃ m, k = m + 1 := ⟨k - 1, by omega⟩
    obtain ⟨hlt, hd2, hx⟩ := drop_split hd
    simp only [spec_CustomersOk.l0]
    rw [if_pos (by omega), if_pos (by omega), rd_Customer_nat, hx, spec_l1In_is, spec_l1In_is, w64s i (by omega), ih (i + 1) k hd2 (by simp at hk; omega) (by omega)]
    simp only [Option.bind_some, decide_eq_true_eq]
    rw [if_neg (show ¬ i + 1 = 0 by omega), show i + 1 - 1 = i from rfl, hx]
    by_cases h1 : 0 ≤ x.f0 ∧ x.f0 ≤ 60
    · rw [if_pos h1]
      by_cases h2 : 1 ≤ x.f1 ∧ x.f1 ≤ 9
      · rw [if_pos h2]
        by_cases hi0 : i = 0
        · subst hi0
          rw [if_neg (by omega), if_pos rfl]
          have e : decide (0 ≤ x.f0 ∧ x.f0 ≤ 60 ∧ 1 ≤ x.f1 ∧ x.f1 ≤ 9) = true := decide_eq_true (by omega)
          simp only [custFrom, e, Bool.true_and]
        · rw [if_pos (by omega), show wrap64 ((i : Int) - 1) = ((i - 1 : Nat) : Int) from by rw [w64 (by omega) (by omega)]; omega, if_pos (by omega), if_pos (by omega), rd_Customer_nat, if_neg hi0]
          by_cases h5 : x.f0 < (l.getD (i - 1) z43).f0
          · rw [if_pos h5, cust_bad2 h5, Bool.false_and]
          rw [if_neg h5]
          have e : decide (0 ≤ x.f0 ∧ x.f0 ≤ 60 ∧ 1 ≤ x.f1 ∧ x.f1 ≤ 9 ∧ (l.getD (i - 1) z43).f0 ≤ x.f0) = true := decide_eq_true (by omega)
          simp only [custFrom, e, Bool.true_and]
      · rw [if_neg h2, cust_bad (by omega), Bool.false_and]
    · rw [if_neg h1, cust_bad (by omega), Bool.false_and]
theorem spec_CustomersOk_is (l : List S43) (hl : l.length ≤ 1048576) (k : Nat) (hk : l.length < k) : spec_CustomersOk.f k l = some (custOk l) := by
  unfold spec_CustomersOk.f
  exact spec_CustomersOk_loop l hl l 0 k rfl hk (by omega)

/-! custfacts -/
theorem custFrom_tail {p : Option S43} {x : S43} {xs : List S43} (h : custFrom p (x :: xs) = true) : (0 ≤ x.f0 ∧ x.f0 ≤ 60 ∧ 1 ≤ x.f1 ∧ x.f1 ≤ 9) ∧ custFrom (some x) xs = true ∧ ∀ q, p = some q → q.f0 ≤ x.f0 := by
  cases p with
  | none =>
    simp only [custFrom, Bool.and_eq_true, decide_eq_true_eq] at h
    exact ⟨h.1, h.2, fun q e => by cases e⟩
  | some q =>
    simp only [custFrom, Bool.and_eq_true, decide_eq_true_eq] at h
    exact ⟨⟨h.1.1, h.1.2.1, h.1.2.2.1, h.1.2.2.2.1⟩, h.2, fun q' e => by cases e; exact h.1.2.2.2.2⟩
theorem custFrom_mem {l : List S43} : ∀ {p : Option S43}, custFrom p l = true → ∀ c ∈ l, 0 ≤ c.f0 ∧ c.f0 ≤ 60 ∧ 1 ≤ c.f1 ∧ c.f1 ≤ 9 := by
  induction l with
  | nil => intro p _ c hc; cases hc
  | cons x xs ih =>
    intro p h c hc
    obtain ⟨h1, h2, -⟩ := custFrom_tail h
    rcases List.mem_cons.1 hc with rfl | hc
    · exact h1
    · exact ih h2 c hc
theorem custFrom_le {l : List S43} : ∀ {p : S43}, custFrom (some p) l = true → ∀ c ∈ l, p.f0 ≤ c.f0 := by
  induction l with
  | nil => intro p _ c hc; cases hc
  | cons x xs ih =>
    intro p h c hc
    obtain ⟨h1, h2, h3⟩ := custFrom_tail h
    have hp := h3 p rfl
    rcases List.mem_cons.1 hc with rfl | hc
    · exact hp
    · have := ih h2 c hc; omega
theorem custOk_from {l : List S43} (h : custOk l = true) : custFrom none l = true := by
  unfold custOk at h
  rw [Bool.and_eq_true] at h
  exact h.1
theorem custOk_len {l : List S43} (h : custOk l = true) : l.length ≤ 8 := by
  unfold custOk at h
  rw [Bool.and_eq_true] at h
  exact of_decide_eq_true h.2
theorem custOk_mem {l : List S43} (h : custOk l = true) : ∀ c ∈ l, 0 ≤ c.f0 ∧ c.f0 ≤ 60 ∧ 1 ≤ c.f1 ∧ c.f1 ≤ 9 := custFrom_mem (custOk_from h)
theorem custFrom_adj {l : List S43} : ∀ {p : Option S43}, custFrom p l = true → ∀ i, i + 1 < l.length → (l.getD i z43).f0 ≤ (l.getD (i + 1) z43).f0 := by
  induction l with
  | nil => intro p _ i h; simp at h
  | cons x xs ih =>
    intro p h i hi
    obtain ⟨h1, h2, -⟩ := custFrom_tail h
    cases i with
    | zero => exact custFrom_le h2 (xs.getD 0 z43) (getD_mem (by simpa using hi) _)
    | succ i => exact ih h2 i (by simpa using hi)

/-! orders -/
/-! Orders: for each unit of time who is served. -/
def needs (l : List S43) : List Int := l.map (·.f1)
def servedOne (left : List Int) (w : Int) : List Int := if 0 ≤ w then left.set w.toNat (left.getD w.toNat 0 - 1) else left
def okI (l : List S43) : List Int → Int → List Int → Bool
  | left, _, [] => left.all (fun n => decide (n = 0))
  | left, t, w :: ws => decide (-1 ≤ w ∧ w < (l.length : Int) ∧ (0 ≤ w → (l.getD w.toNat z43).f0 ≤ t)) && okI l (servedOne left w) (t + 1) ws
def orderOk (l : List S43) (order : List Int) : Bool := custOk l && (decide (order.length ≤ 200) && okI l (needs l) 0 order)
theorem orderOk_parts {l : List S43} {order : List Int} (h : orderOk l order = true) : custOk l = true ∧ order.length ≤ 200 ∧ okI l (needs l) 0 order = true := by
  unfold orderOk at h
  rw [Bool.and_eq_true, Bool.and_eq_true, decide_eq_true_eq] at h
  exact h
theorem needs_length (l : List S43) : (needs l).length = l.length := by unfold needs; rw [List.length_map]
theorem servedOne_length (left : List Int) (w : Int) : (servedOne left w).length = left.length := by
  unfold servedOne; split
  · rw [List.length_set]
  · rfl
theorem needs_get (l : List S43) (i : Nat) : (needs l).getD i 0 = (l.getD i z43).f1 := by
  unfold needs
  rw [List.getD_eq_getElem?_getD, List.getD_eq_getElem?_getD, List.getElem?_map]
  cases l[i]? <;> rfl
theorem getD_set_eq {α : Type} (X : List α) (i : Nat) (v d : α) (h : i < X.length) : (X.set i v).getD i d = v := by
  rw [getD_lt (by rw [List.length_set]; exact h), List.getElem_set_self]
theorem getD_set_ne {α : Type} (X : List α) (i j : Nat) (v d : α) (h : i ≠ j) : (X.set i v).getD j d = X.getD j d := by
  rw [List.getD_eq_getElem?_getD, List.getElem?_set_ne h, List.getD_eq_getElem?_getD]
/-- How often one is served. -/
def cntW (w : Int) : List Int → Int
  | [] => 0
  | x :: xs => (if x = w then 1 else 0) + cntW w xs
theorem cntW_append (w : Int) (a b : List Int) : cntW w (a ++ b) = cntW w a + cntW w b := by
  induction a with
  | nil => simp [cntW]
  | cons x xs ih => simp only [List.cons_append, cntW, ih]; omega
theorem cntW_bound (w : Int) (a : List Int) : 0 ≤ cntW w a ∧ cntW w a ≤ a.length := by
  induction a with
  | nil => simp [cntW]
  | cons x xs ih => simp only [cntW, List.length_cons]; split <;> omega
theorem okI_cnt (l : List S43) : ∀ (ws left : List Int) (t : Int), left.length = l.length → okI l left t ws = true → ∀ i, i < left.length → left.getD i 0 = cntW (i : Int) ws := by
  intro ws
  induction ws with
  | nil =>
    intro left t hl h i hi
    simp only [okI, List.all_eq_true, decide_eq_true_eq] at h
    simp only [cntW]
    exact h _ (getD_mem hi _)
  | cons w ws ih =>
    intro left t hl h i hi
    simp only [okI, Bool.and_eq_true, decide_eq_true_eq] at h
    obtain ⟨⟨h1, h2, -⟩, h4⟩ := h
    have := ih (servedOne left w) (t + 1) (by rw [servedOne_length]; exact hl) h4 i (by rw [servedOne_length]; exact hi)
    simp only [cntW]
    rw [← this]
    unfold servedOne
    by_cases hw : 0 ≤ w
    · rw [if_pos hw]
      by_cases e : w = (i : Int)
      · rw [if_pos e, show w.toNat = i from by omega, getD_set_eq _ _ _ _ hi]; omega
      · rw [if_neg e, getD_set_ne _ _ _ _ _ (by omega)]; omega
    · rw [if_neg hw, if_neg (by omega)]; omega
theorem orderOk_cnt {l : List S43} {order : List Int} (h : orderOk l order = true) (i : Nat) (hi : i < l.length) : cntW (i : Int) order = (l.getD i z43).f1 := by
  obtain ⟨-, -, h3⟩ := orderOk_parts h
  rw [← okI_cnt l order (needs l) 0 (needs_length l) h3 i (by rw [needs_length]; exact hi), needs_get]
theorem okI_neg (l : List S43) : ∀ (ws left : List Int) (t : Int), left.length = l.length → (∃ i, i < left.length ∧ left.getD i 0 < 0) → okI l left t ws = false := by
  intro ws left t hl ⟨i, hi, hneg⟩
  by_cases h : okI l left t ws = true
  · have := okI_cnt l ws left t hl h i hi
    have := cntW_bound (i : Int) ws
    omega
  · simpa using h
theorem needs_bound {l : List S43} (hok : custOk l = true) : ∀ x ∈ needs l, 0 ≤ x ∧ x ≤ 9 := by
  intro x hx
  unfold needs at hx
  obtain ⟨c, hc, rfl⟩ := List.mem_map.1 hx
  have := custOk_mem hok c hc
  omega

/-! leftof -/
theorem impl_leftOf_loop (l : List S43) (hl : l.length ≤ 1048576) : ∀ (suf : List S43) (i k : Nat) (out : List Int), l.drop i = suf → suf.length < k → i ≤ l.length → out.length ≤ i → impl_leftOf.l0 k out l (l.length : Int) i = some (out ++ needs suf) := by
  intro suf
  induction suf with
  | nil =>
    intro i k out hd hk hi ho
    obtain ⟨k, rfl⟩ : ∃ m, k = m + 1 := ⟨k - 1, by omega⟩
    have := drop_nil hd
    simp only [impl_leftOf.l0]
    rw [if_neg (by omega)]
    simp [needs]
  | cons x xs ih =>
    intro i k out hd hk hi ho
    obtain ⟨k, rfl⟩ : ∃ m, k = m + 1 := ⟨k - 1, by omega⟩
    obtain ⟨hlt, hd2, hx⟩ := drop_split hd
    simp only [impl_leftOf.l0]
    rw [if_pos (by omega), if_pos (by omega), if_pos (by omega), if_pos (by omega), rd_Customer_nat, hx, w64s i (by omega)]
    rw [ih (i + 1) k _ hd2 (by simp at hk; omega) (by omega) (by rw [List.length_append]; simp; omega)]
    simp [needs]
theorem impl_leftOf_is (l : List S43) (hl : l.length ≤ 1048576) (k : Nat) (hk : l.length < k) : impl_leftOf.f k l = some (needs l) := by
  unfold impl_leftOf.f
  exact impl_leftOf_loop l hl l 0 k [] rfl hk (by omega) (by simp)

/-! lastleave -/
def needSum : List S43 → Int
  | [] => 0
  | x :: xs => x.f1 + needSum xs
theorem needSum_bound (l : List S43) (hm : ∀ c ∈ l, 0 ≤ c.f0 ∧ c.f0 ≤ 60 ∧ 1 ≤ c.f1 ∧ c.f1 ≤ 9) : (l.length : Int) ≤ needSum l ∧ needSum l ≤ 9 * l.length := by
  induction l with
  | nil => simp [needSum]
  | cons x xs ih =>
    have := ih (fun b hb => hm b (List.mem_cons_of_mem _ hb))
    have := hm x (by simp)
    simp only [needSum, List.length_cons]
    omega
theorem impl_needOf_loop (l : List S43) (hl : l.length ≤ 8) (hm : ∀ c ∈ l, 0 ≤ c.f0 ∧ c.f0 ≤ 60 ∧ 1 ≤ c.f1 ∧ c.f1 ≤ 9) : ∀ (suf : List S43) (i k : Nat) (n : Int), l.drop i = suf → suf.length < k → i ≤ l.length → 0 ≤ n → n ≤ 9 * i →
    impl_needOf.l0 k n l (l.length : Int) i = some (n + needSum suf) := by
  intro suf
  induction suf with
  | nil =>
    intro i k n hd hk hi _ _
    obtain ⟨k, rfl⟩ : ∃ m, k = m + 1 := ⟨k - 1, by omega⟩
    have := drop_nil hd
    simp only [impl_needOf.l0]
    rw [if_neg (by omega)]
    simp [needSum]
  | cons x xs ih =>
    intro i k n hd hk hi h0 h1
    obtain ⟨k, rfl⟩ : ∃ m, k = m + 1 := ⟨k - 1, by omega⟩
    obtain ⟨hlt, hd2, hx⟩ := drop_split hd
    have hxb := hm x (by rw [← hx z43]; exact getD_mem hlt _)
    simp only [impl_needOf.l0]
    rw [if_pos (by omega), if_pos (by omega), if_pos (by omega), rd_Customer_nat, hx, w64s i (by omega), show wrap64 (n + x.f1) = n + x.f1 from w64 (by omega) (by omega)]
    rw [ih (i + 1) k _ hd2 (by simp at hk; omega) (by omega) (by omega) (by omega)]
    simp only [needSum]
    rw [Int.add_assoc]
theorem impl_needOf_is (l : List S43) (hl : l.length ≤ 8) (hm : ∀ c ∈ l, 0 ≤ c.f0 ∧ c.f0 ≤ 60 ∧ 1 ≤ c.f1 ∧ c.f1 ≤ 9) (k : Nat) (hk : 9 ≤ k) : impl_needOf.f k l = some (needSum l) := by
  unfold impl_needOf.f
  have h := impl_needOf_loop l hl hm l 0 k 0 rfl (by omega) (by omega) (by omega) (by omega)
  rw [Int.zero_add] at h
  exact h
/-- The greatest of m and of all times of coming with the needs from there on. -/
def lastFrom : List S43 → Int → Int
  | [], m => m
  | x :: xs, m => lastFrom xs (max m (x.f0 + needSum (x :: xs)))
def lastP (l : List S43) : Int := lastFrom l 0
theorem impl_lastLeave_loop (l : List S43) (hl : l.length ≤ 8) (hm : ∀ c ∈ l, 0 ≤ c.f0 ∧ c.f0 ≤ 60 ∧ 1 ≤ c.f1 ∧ c.f1 ≤ 9) : ∀ (suf : List S43) (i k : Nat) (n : Int), l.drop i = suf → suf.length + 10 < k → i ≤ l.length →
    impl_lastLeave.l0 k l n l (l.length : Int) i = some (lastFrom suf n) := by
  intro suf
  induction suf with
  | nil =>
    intro i k n hd hk hi
    obtain ⟨k, rfl⟩ : ∃ m, k = m + 1 := ⟨k - 1, by omega⟩
    have := drop_nil hd
    simp only [impl_lastLeave.l0]
    rw [if_neg (by omega)]
    simp [lastFrom]
  | cons x xs ih =>
    intro i k n hd hk hi
    obtain ⟨k, rfl⟩ : ∃ m, k = m + 1 := ⟨k - 1, by omega⟩
    obtain ⟨hlt, hd2, hx⟩ := drop_split hd
    have hxb := hm x (by rw [← hx z43]; exact getD_mem hlt _)
    have hmd : ∀ c ∈ x :: xs, 0 ≤ c.f0 ∧ c.f0 ≤ 60 ∧ 1 ≤ c.f1 ∧ c.f1 ≤ 9 := fun b hb => hm b (by rw [← hd] at hb; exact List.mem_of_mem_drop hb)
    have hlen : (x :: xs).length ≤ 8 := by rw [← hd, List.length_drop]; omega
    have hn := needSum_bound (x :: xs) hmd
    simp only [impl_lastLeave.l0]
    rw [if_pos (by omega), if_pos (by omega), if_pos (by omega), if_pos (by omega), Int.toNat_natCast, hd, impl_needOf_is (x :: xs) hlen hmd k (by simp at hk; omega)]
    simp only [Option.bind_some]
    rw [rd_Customer_nat, hx, w64s i (by omega), mx_max, show wrap64 (x.f0 + needSum (x :: xs)) = x.f0 + needSum (x :: xs) from w64 (by omega) (by omega)]
    rw [ih (i + 1) k _ hd2 (by simp at hk; omega) (by omega)]
    rfl
theorem impl_lastLeave_is (l : List S43) (hok : custOk l = true) (k : Nat) (hk : 20 ≤ k) : impl_lastLeave.f k l = some (lastP l) := by
  have h8 := custOk_len hok
  unfold impl_lastLeave.f
  exact impl_lastLeave_loop l h8 (custOk_mem hok) l 0 k 0 rfl (by omega) (by omega)
theorem lastFrom_ge (l : List S43) : ∀ m, m ≤ lastFrom l m := by
  induction l with
  | nil => intro m; exact Int.le_refl _
  | cons x xs ih => intro m; have := ih (max m (x.f0 + needSum (x :: xs))); simp only [lastFrom]; omega
theorem lastFrom_le (l : List S43) : ∀ m B, m ≤ B → (∀ i, i < l.length → (l.getD i z43).f0 + needSum (l.drop i) ≤ B) → lastFrom l m ≤ B := by
  induction l with
  | nil => intro m B h _; exact h
  | cons x xs ih =>
    intro m B h hB
    have h0 := hB 0 (by simp)
    simp only [List.getD_cons_zero, List.drop_zero] at h0
    exact ih _ B (by omega) (fun i hi => hB (i + 1) (by simpa using hi))
/-- Each comes, and all from there on are served, before M. -/
def doneBy : List S43 → Int → Prop
  | [], _ => True
  | x :: xs, M => x.f0 + needSum (x :: xs) ≤ M ∧ doneBy xs M
theorem doneBy_mono (l : List S43) : ∀ {M N : Int}, M ≤ N → doneBy l M → doneBy l N := by
  induction l with
  | nil => intro M N _ _; trivial
  | cons x xs ih => intro M N h hd; exact ⟨by have := hd.1; omega, ih h hd.2⟩
theorem doneBy_last (l : List S43) : ∀ m, doneBy l (lastFrom l m) := by
  induction l with
  | nil => intro m; trivial
  | cons x xs ih =>
    intro m
    refine ⟨?_, ih _⟩
    have := lastFrom_ge xs (max m (x.f0 + needSum (x :: xs)))
    simp only [lastFrom]
    omega
theorem lastP_bound (l : List S43) (hok : custOk l = true) : 0 ≤ lastP l ∧ lastP l ≤ 132 := by
  have hm := custOk_mem hok
  have hl := custOk_len hok
  refine ⟨lastFrom_ge l 0, lastFrom_le l 0 132 (by omega) (fun i hi => ?_)⟩
  have h1 := hm (l.getD i z43) (getD_mem hi _)
  have h2 := needSum_bound (l.drop i) (fun c hc => hm c (List.mem_of_mem_drop hc))
  rw [List.length_drop] at h2
  omega

/-! lastspec -/
theorem doneBy_get : ∀ {l : List S43} {M : Int}, doneBy l M → ∀ j, j < l.length → (l.getD j z43).f0 + needSum (l.drop j) ≤ M := by
  intro l
  induction l with
  | nil => intro M _ j h; simp at h
  | cons x xs ih =>
    intro M hd j hj
    cases j with
    | zero => exact hd.1
    | succ j => exact ih hd.2 j (by simpa using hj)
theorem spec_LastLeave_loop (l : List S43) (h8 : l.length ≤ 8) (hm : ∀ c ∈ l, 0 ≤ c.f0 ∧ c.f0 ≤ 60 ∧ 1 ≤ c.f1 ∧ c.f1 ≤ 9) : ∀ (n k : Nat) (best : Int), n ≤ l.length → n < k → 0 ≤ best →
    ∃ r, spec_LastLeave.l0 k l best (needSum (l.drop n)) ((n : Int) - 1) = some r ∧ best ≤ r ∧ (∀ j, j < n → (l.getD j z43).f0 + needSum (l.drop j) ≤ r) ∧ ∀ B, best ≤ B → (∀ j, j < n → (l.getD j z43).f0 + needSum (l.drop j) ≤ B) → r ≤ B := by
  intro n
  induction n with
  | zero =>
    intro k best hn hk h0
    obtain ⟨k, rfl⟩ : ∃ m, k = m + 1 := ⟨k - 1, by omega⟩
    simp only [spec_LastLeave.l0]
    rw [if_neg (by omega)]
    exact ⟨best, rfl, Int.le_refl _, fun j hj => by omega, fun B h _ => h⟩
  | succ n ih =>
    intro k best hn hk h0
    obtain ⟨k, rfl⟩ : ∃ m, k = m + 1 := ⟨k - 1, by omega⟩
    have hlt : n < l.length := by omega
    have hdr : l.drop n = l.getD n z43 :: l.drop (n + 1) := by rw [getD_lt hlt]; exact List.drop_eq_getElem_cons hlt
    have hns : needSum (l.drop n) = (l.getD n z43).f1 + needSum (l.drop (n + 1)) := by rw [hdr]; rfl
    have hb := needSum_bound (l.drop n) (fun c hc => hm c (List.mem_of_mem_drop hc))
    have hb2 := needSum_bound (l.drop (n + 1)) (fun c hc => hm c (List.mem_of_mem_drop hc))
    rw [List.length_drop] at hb hb2
    have hxb := hm (l.getD n z43) (getD_mem hlt _)
    simp only [spec_LastLeave.l0]
    rw [show (((n + 1 : Nat) : Int) - 1) = (n : Int) from by omega, if_pos (by omega), if_pos (by omega), if_pos (by omega), rd_Customer_nat, mx_max, show wrap64 (needSum (l.drop (n + 1)) + (l.getD n z43).f1) = needSum (l.drop n) from by rw [w64 (by omega) (by omega)]; omega, show wrap64 ((l.getD n z43).f0 + needSum (l.drop n)) = (l.getD n z43).f0 + needSum (l.drop n) from w64 (by omega) (by omega), show wrap64 ((n : Int) - 1) = (n : Int) - 1 from w64 (by omega) (by omega)]
    obtain ⟨r, e, h1, h2, h3⟩ := ih k (max best ((l.getD n z43).f0 + needSum (l.drop n))) (by omega) (by omega) (by omega)
    refine ⟨r, e, by omega, fun j hj => ?_, fun B hB hj => h3 B ?_ (fun j hj2 => hj j (by omega))⟩
    · by_cases e2 : j = n
      · subst e2; omega
      · exact h2 j (by omega)
    · have := hj n (by omega); omega
theorem spec_LastLeave_is (l : List S43) (hok : custOk l = true) (k : Nat) (hk : 20 ≤ k) : spec_LastLeave.f k l = some (lastP l) := by
  have h8 := custOk_len hok
  have hm := custOk_mem hok
  unfold spec_LastLeave.f
  rw [spec_CustomersOk_is l (by omega) k (by omega)]
  simp only [Option.bind_some]
  rw [if_pos hok, show wrap64 ((l.length : Int) - 1) = (l.length : Int) - 1 from w64 (by omega) (by omega)]
  obtain ⟨r, e, h1, h2, h3⟩ := spec_LastLeave_loop l h8 hm l.length k 0 (by omega) (by omega) (by omega)
  rw [List.drop_eq_nil_of_le (Nat.le_refl _)] at e
  rw [show (0 : Int) = needSum [] from rfl] at *
  rw [e]
  congr 1
  have g1 := lastFrom_ge l 0
  have g2 := h3 (lastP l) g1 (fun j hj => doneBy_get (doneBy_last l 0) j hj)
  have g3 := lastFrom_le l 0 r h1 h2
  have e3 : lastP l = lastFrom l 0 := rfl
  omega

/-! rounds -/
/-! Rounds: who was served goes behind, then those who come; the head is served. -/
def arrFrom : List S43 → Int → Int → List Int
  | [], _, _ => []
  | x :: xs, i, t => (if x.f0 = t then [i] else []) ++ arrFrom xs (i + 1) t
def rowAt (l : List S43) (t before : Int) (left row : List Int) : List Int :=
  (row ++ (if 0 ≤ before ∧ 0 < left.getD before.toNat 0 then [before] else [])) ++ arrFrom l 0 t
def roundP (l : List S43) : Nat → Int → Int → List Int → List Int → List Int
  | 0, _, _, _, _ => []
  | d + 1, t, before, left, row =>
    match rowAt l t before left row with
    | [] => -1 :: roundP l d (t + 1) (-1) left []
    | w :: ws => w :: roundP l d (t + 1) w (left.set w.toNat (left.getD w.toNat 0 - 1)) ws
def roundOrderP (l : List S43) : List Int := if custOk l = true then roundP l (lastP l).toNat 0 (-1) (needs l) [] else []
theorem arrFrom_mem : ∀ (l : List S43) (i t : Int), ∀ x ∈ arrFrom l i t, i ≤ x ∧ x < i + l.length := by
  intro l
  induction l with
  | nil => intro i t x hx; cases hx
  | cons c cs ih =>
    intro i t x hx
    simp only [arrFrom] at hx
    rcases List.mem_append.1 hx with hx | hx
    · split at hx
      · rw [List.mem_singleton.1 hx]; simp only [List.length_cons]; omega
      · cases hx
    · have := ih (i + 1) t x hx
      simp only [List.length_cons]; omega
theorem arrFrom_length : ∀ (l : List S43) (i t : Int), (arrFrom l i t).length ≤ l.length := by
  intro l
  induction l with
  | nil => intro i t; simp [arrFrom]
  | cons c cs ih =>
    intro i t
    have := ih (i + 1) t
    simp only [arrFrom, List.length_append, List.length_cons]
    split <;> simp <;> omega
theorem roundP_length (l : List S43) : ∀ (d : Nat) (t b : Int) (left row : List Int), (roundP l d t b left row).length = d := by
  intro d
  induction d with
  | zero => intro t b left row; rfl
  | succ d ih =>
    intro t b left row
    simp only [roundP]
    split <;> simp [ih]
/-- What a state of the rounds keeps. -/
structure RoundInv (l : List S43) (i : Nat) (before : Int) (left row : List Int) : Prop where
  bl : -1 ≤ before
  bh : before < (l.length : Int)
  ll : left.length = l.length
  lb : ∀ x ∈ left, -(i : Int) ≤ x ∧ x ≤ 9
  rm : ∀ x ∈ row, 0 ≤ x ∧ x < (l.length : Int)
  rl : row.length ≤ 9 * i
theorem rowAt_mem {l : List S43} {i : Nat} {before : Int} {left row : List Int} (h : RoundInv l i before left row) (t : Int) : ∀ x ∈ rowAt l t before left row, 0 ≤ x ∧ x < (l.length : Int) := by
  intro x hx
  unfold rowAt at hx
  rcases List.mem_append.1 hx with hx | hx
  · rcases List.mem_append.1 hx with hx | hx
    · exact h.rm x hx
    · split at hx
      · rename_i hb
        rw [List.mem_singleton.1 hx]; exact ⟨hb.1, h.bh⟩
      · cases hx
  · have := arrFrom_mem l 0 t x hx; omega
theorem rowAt_length {l : List S43} (h8 : l.length ≤ 8) {i : Nat} {before : Int} {left row : List Int} (h : RoundInv l i before left row) (t : Int) : (rowAt l t before left row).length ≤ 9 * (i + 1) := by
  unfold rowAt
  rw [List.length_append, List.length_append]
  have := arrFrom_length l 0 t
  have := h.rl
  split <;> simp <;> omega
theorem RoundInv.next {l : List S43} (h8 : l.length ≤ 8) {i : Nat} {before : Int} {left row : List Int} (h : RoundInv l i before left row) {t w : Int} {ws : List Int} (e : rowAt l t before left row = w :: ws) : RoundInv l (i + 1) w (left.set w.toNat (left.getD w.toNat 0 - 1)) ws := by
  have hm := rowAt_mem h t
  have hl := rowAt_length h8 h t
  rw [e] at hm hl
  have hw := hm w (by simp)
  simp only [List.length_cons] at hl
  refine ⟨by omega, hw.2, by rw [List.length_set]; exact h.ll, fun x hx => ?_, fun x hx => hm x (List.mem_cons_of_mem _ hx), by omega⟩
  rcases List.mem_or_eq_of_mem_set hx with hx | hx
  · have := h.lb x hx; omega
  · have := h.lb _ (getD_mem (show w.toNat < left.length by rw [h.ll]; omega) 0); omega
theorem RoundInv.idle {l : List S43} {i : Nat} {before : Int} {left row : List Int} (h : RoundInv l i before left row) : RoundInv l (i + 1) (-1) left [] :=
  ⟨by omega, by omega, h.ll, fun x hx => by have := h.lb x hx; omega, (fun x hx => by cases hx), by simp⟩
theorem RoundInv.start {l : List S43} (hok : custOk l = true) : RoundInv l 0 (-1) (needs l) [] :=
  ⟨by omega, by omega, needs_length l, fun x hx => by have := needs_bound hok x hx; omega, (fun x hx => by cases hx), by simp⟩

/-! rounds_impl -/
theorem impl_Round_arr (l : List S43) (h8 : l.length ≤ 8) (left out : List Int) (t last i0 r0 : Int) (r : List Int) (K : Nat) : ∀ (suf : List S43) (i k : Nat) (row : List Int), l.drop i = suf → K + suf.length + 1 ≤ k → i ≤ l.length → row.length + suf.length ≤ 100000 →
    (∀ k', K + 1 ≤ k' → impl_RoundOrder.l1 k' l left out (row ++ arrFrom suf i t) t last i0 l (l.length : Int) (l.length : Int) = some r) → impl_RoundOrder.l1 k l left out row t last i0 l (l.length : Int) i = some r := by
  intro suf
  induction suf with
  | nil =>
    intro i k row hd hk hi hr h
    have := drop_nil hd
    have e : (i : Int) = (l.length : Int) := by omega
    rw [e]
    have := h k (by simp at hk; omega)
    simpa [arrFrom] using this
  | cons x xs ih =>
    intro i k row hd hk hi hr h
    obtain ⟨k, rfl⟩ : ∃ m, k = m + 1 := ⟨k - 1, by omega⟩
    obtain ⟨hlt, hd2, hx⟩ := drop_split hd
    simp only [List.length_cons] at hk hr
    rw [impl_RoundOrder.l1]
    rw [if_pos (by omega), if_pos (by omega), if_pos (by omega), rd_Customer_nat, hx, w64s i (by omega)]
    by_cases hc : x.f0 = t
    · rw [if_pos hc, if_pos (by omega)]
      refine ih (i + 1) k (row ++ [(i : Int)]) hd2 (by omega) (by omega) (by rw [List.length_append]; simp; omega) (fun k' hk' => ?_)
      have := h k' hk'
      simp only [arrFrom, if_pos hc] at this
      rw [List.append_assoc, show ((i + 1 : Nat) : Int) = (i : Int) + 1 from by omega]
      exact this
    · rw [if_neg hc]
      refine ih (i + 1) k row hd2 (by omega) (by omega) (by omega) (fun k' hk' => ?_)
      have := h k' hk'
      simp only [arrFrom, if_neg hc, List.nil_append] at this
      rw [show ((i + 1 : Nat) : Int) = (i : Int) + 1 from by omega]
      exact this
theorem impl_Round_loop (l : List S43) (h8 : l.length ≤ 8) (n : Nat) (hn : n ≤ 200) : ∀ (d i k : Nat) (before : Int) (left row out : List Int), i + d = n → 16 * d + 1 ≤ k → RoundInv l i before left row → out.length = i → (i = 0 → before = -1) → (1 ≤ i → out.getD (i - 1) 0 = before) →
    impl_RoundOrder.l0 k l left out row (n : Int) i = some (out ++ roundP l d i before left row) := by
  intro d
  induction d with
  | zero =>
    intro i k before left row out he hk hI ho _ _
    obtain ⟨k, rfl⟩ : ∃ m, k = m + 1 := ⟨k - 1, by omega⟩
    rw [impl_RoundOrder.l0]
    rw [if_neg (by omega)]
    simp [roundP]
  | succ d ih =>
    intro i k before left row out he hk hI ho hb0 hb1
    obtain ⟨k, rfl⟩ : ∃ m, k = m + 3 := ⟨k - 3, by omega⟩
    have hrl := hI.rl
    -- behind the arrivals
    have fin : ∀ k', 16 * d + 1 + 1 ≤ k' → impl_RoundOrder.l1 k' l left out (rowAt l i before left row) i (n : Int) i l (l.length : Int) (l.length : Int) = some (out ++ roundP l (d + 1) i before left row) := by
      intro k' hk'
      obtain ⟨k', rfl⟩ : ∃ m, k' = m + 1 := ⟨k' - 1, by omega⟩
      have hm := rowAt_mem hI (i : Int)
      rw [impl_RoundOrder.l1]
      rw [if_neg (by omega)]
      simp only [roundP]
      cases hrow : rowAt l (i : Int) before left row with
      | nil =>
        rw [if_neg (by simp), if_pos (by omega), w64s i (by omega)]
        rw [ih (i + 1) k' (-1) left [] _ (by omega) (by omega) hI.idle (by rw [List.length_append, ho]; rfl) (by omega) (fun _ => by rw [show i + 1 - 1 = i from rfl, getD_snoc_last _ _ _ ho])]
        simp
      | cons w ws =>
        rw [hrow] at hm
        have hw := hm w (by simp)
        have hwl : w.toNat < left.length := by rw [hI.ll]; omega
        have hwb := hI.lb _ (getD_mem hwl 0)
        have hnx := hI.next h8 hrow
        simp only [show rd (w :: ws) 0 = w from rfl, show rd left w = left.getD w.toNat 0 from rfl]
        rw [if_pos (by simp only [List.length_cons]; omega), if_pos (by simp only [List.length_cons]; omega), if_pos (by simp only [List.length_cons]; omega), if_pos hw.1, if_pos (by rw [hI.ll]; exact hw.2), if_pos (by omega), w64s i (by omega), show wrap64 (left.getD w.toNat 0 - 1) = left.getD w.toNat 0 - 1 from w64 (by omega) (by omega)]
        rw [show (w :: ws).drop (1 : Int).toNat = ws from rfl]
        rw [ih (i + 1) k' w _ ws _ (by omega) (by omega) hnx (by rw [List.length_append, ho]; rfl) (by omega) (fun _ => by rw [show i + 1 - 1 = i from rfl, getD_snoc_last _ _ _ ho])]
        simp
    have arr : ∀ (row2 : List Int) k', 16 * d + 12 ≤ k' → row2.length ≤ 5000 → row2 ++ arrFrom l 0 i = rowAt l i before left row → impl_RoundOrder.j2 k' l left out row2 i (n : Int) i = some (out ++ roundP l (d + 1) i before left row) := by
      intro row2 k' hk' hr2 hre
      obtain ⟨k', rfl⟩ : ∃ m, k' = m + 1 := ⟨k' - 1, by omega⟩
      rw [impl_RoundOrder.j2]
      refine impl_Round_arr l h8 left out i (n : Int) i 0 _ (16 * d + 1) l 0 k' row2 rfl (by omega) (by omega) (by omega) (fun k'' hk'' => ?_)
      rw [show ((0 : Nat) : Int) = 0 from rfl, hre]
      exact fin k'' hk''
    rw [impl_RoundOrder.l0]
    rw [if_pos (by omega)]
    by_cases hi0 : i = 0
    · have hbe := hb0 hi0
      rw [if_neg (by omega), impl_RoundOrder.j1, if_neg (by simp)]
      refine arr row (k + 1) (by omega) (by omega) ?_
      unfold rowAt
      rw [if_neg (by omega)]
      simp
    · have hbe := hb1 (by omega)
      rw [if_pos (by omega), show wrap64 ((i : Int) - 1) = ((i - 1 : Nat) : Int) from by rw [w64 (by omega) (by omega)]; omega, if_pos (by omega), if_pos (by omega), rd_nat, hbe]
      by_cases hb : before ≥ 0
      · have hbl : before.toNat < left.length := by rw [hI.ll]; have := hI.bh; omega
        rw [if_pos hb, if_pos (show (0 : Int) ≤ before from hb), if_pos (by rw [hI.ll]; exact hI.bh), impl_RoundOrder.j1]
        rw [show rd left before = left.getD before.toNat 0 from rfl]
        by_cases hp : left.getD before.toNat 0 > 0
        · rw [if_pos (by rw [decide_eq_true_eq]; exact hp), show wrap64 ((i : Int) - 1) = ((i - 1 : Nat) : Int) from by rw [w64 (by omega) (by omega)]; omega, if_pos (by omega), if_pos (by omega), if_pos (by omega), rd_nat, hbe]
          refine arr (row ++ [before]) (k + 1) (by omega) (by rw [List.length_append]; simp; omega) ?_
          unfold rowAt
          rw [if_pos ⟨hb, hp⟩]
        · rw [if_neg (by rw [decide_eq_true_eq]; exact hp)]
          refine arr row (k + 1) (by omega) (by omega) ?_
          unfold rowAt
          rw [if_neg (fun h => hp h.2)]
          simp
      · rw [if_neg hb, impl_RoundOrder.j1, if_neg (by simp)]
        refine arr row (k + 1) (by omega) (by omega) ?_
        unfold rowAt
        rw [if_neg (fun h => hb h.1)]
        simp
theorem impl_RoundOrder_is (l : List S43) (hl : l.length ≤ 1048576) (k : Nat) (hk : l.length + 3000 ≤ k) : impl_RoundOrder.f k l = some (roundOrderP l) := by
  unfold impl_RoundOrder.f roundOrderP
  rw [impl_CustomersOk_is l hl k (by omega)]
  simp only [Option.bind_some]
  by_cases hok : custOk l = true
  · have h8 := custOk_len hok
    have hb := lastP_bound l hok
    rw [if_pos hok, if_pos hok, impl_leftOf_is l hl k (by omega)]
    simp only [Option.bind_some]
    rw [impl_lastLeave_is l hok k (by omega)]
    simp only [Option.bind_some]
    have h := impl_Round_loop l h8 (lastP l).toNat (by omega) (lastP l).toNat 0 k (-1) (needs l) [] [] (by omega) (by omega) (RoundInv.start hok) rfl (fun _ => rfl) (fun h => by omega)
    rw [show (((lastP l).toNat : Nat) : Int) = lastP l from by omega] at h
    exact h
  · rw [if_neg hok, if_neg hok]

/-! rounds_spec -/
theorem spec_Round_arr (l : List S43) (h8 : l.length ≤ 8) (left out : List Int) (t : Int) (r : List Int) (K : Nat) : ∀ (suf : List S43) (i k : Nat) (row : List Int), l.drop i = suf → K + suf.length + 1 ≤ k → i ≤ l.length → row.length + suf.length ≤ 100000 →
    (∀ k', K + 1 ≤ k' → spec_RoundOrder.l2 k' l out left (row ++ arrFrom suf i t) t (l.length : Int) = some r) → spec_RoundOrder.l2 k l out left row t i = some r := by
  intro suf
  induction suf with
  | nil =>
    intro i k row hd hk hi hr h
    have := drop_nil hd
    have e : (i : Int) = (l.length : Int) := by omega
    rw [e]
    have := h k (by simp at hk; omega)
    simpa [arrFrom] using this
  | cons x xs ih =>
    intro i k row hd hk hi hr h
    obtain ⟨k, rfl⟩ : ∃ m, k = m + 1 := ⟨k - 1, by omega⟩
    obtain ⟨hlt, hd2, hx⟩ := drop_split hd
    simp only [List.length_cons] at hk hr
    rw [spec_RoundOrder.l2]
    rw [if_pos (by omega), if_pos (by omega), rd_Customer_nat, hx, w64s i (by omega)]
    by_cases hc : x.f0 = t
    · rw [if_pos hc, if_pos (by omega)]
      refine ih (i + 1) k (row ++ [(i : Int)]) hd2 (by omega) (by omega) (by rw [List.length_append]; simp; omega) (fun k' hk' => ?_)
      have := h k' hk'
      simp only [arrFrom, if_pos hc] at this
      rw [List.append_assoc, show ((i + 1 : Nat) : Int) = (i : Int) + 1 from by omega]
      exact this
    · rw [if_neg hc]
      refine ih (i + 1) k row hd2 (by omega) (by omega) (by omega) (fun k' hk' => ?_)
      have := h k' hk'
      simp only [arrFrom, if_neg hc, List.nil_append] at this
      rw [show ((i + 1 : Nat) : Int) = (i : Int) + 1 from by omega]
      exact this
theorem spec_Round_loop (l : List S43) (hok : custOk l = true) (n : Nat) (hn : n ≤ 200) (hnl : lastP l = (n : Int)) : ∀ (d i k : Nat) (before : Int) (left row out : List Int), i + d = n → 16 * d + 40 ≤ k → RoundInv l i before left row → out.length = i →
    spec_RoundOrder.l1 k l out left row before i = some (out ++ roundP l d i before left row) := by
  have h8 := custOk_len hok
  intro d
  induction d with
  | zero =>
    intro i k before left row out he hk hI ho
    obtain ⟨k, rfl⟩ : ∃ m, k = m + 1 := ⟨k - 1, by omega⟩
    rw [spec_RoundOrder.l1, spec_LastLeave_is l hok k (by omega)]
    simp only [Option.bind_some]
    rw [hnl, if_neg (by omega)]
    simp [roundP]
  | succ d ih =>
    intro i k before left row out he hk hI ho
    obtain ⟨k, rfl⟩ : ∃ m, k = m + 3 := ⟨k - 3, by omega⟩
    have hrl := hI.rl
    have fin : ∀ k', 16 * d + 40 + 1 ≤ k' → spec_RoundOrder.l2 k' l out left (rowAt l i before left row) i (l.length : Int) = some (out ++ roundP l (d + 1) i before left row) := by
      intro k' hk'
      obtain ⟨k', rfl⟩ : ∃ m, k' = m + 1 := ⟨k' - 1, by omega⟩
      have hm := rowAt_mem hI (i : Int)
      rw [spec_RoundOrder.l2]
      rw [if_neg (by omega)]
      simp only [roundP]
      cases hrow : rowAt l (i : Int) before left row with
      | nil =>
        rw [if_neg (by simp), if_pos (by omega), w64s i (by omega)]
        rw [ih (i + 1) k' (-1) left [] _ (by omega) (by omega) hI.idle (by rw [List.length_append, ho]; rfl)]
        simp
      | cons w ws =>
        rw [hrow] at hm
        have hw := hm w (by simp)
        have hwl : w.toNat < left.length := by rw [hI.ll]; omega
        have hwb := hI.lb _ (getD_mem hwl 0)
        have hnx := hI.next h8 hrow
        simp only [show rd (w :: ws) 0 = w from rfl, show rd left w = left.getD w.toNat 0 from rfl]
        rw [if_pos (by simp only [List.length_cons]; omega), if_pos (by simp only [List.length_cons]; omega), if_pos (by simp only [List.length_cons]; omega), if_pos hw.1, if_pos (by rw [hI.ll]; exact hw.2), if_pos (by omega), w64s i (by omega), show wrap64 (left.getD w.toNat 0 - 1) = left.getD w.toNat 0 - 1 from w64 (by omega) (by omega)]
        rw [show (w :: ws).drop (1 : Int).toNat = ws from rfl]
        rw [ih (i + 1) k' w _ ws _ (by omega) (by omega) hnx (by rw [List.length_append, ho]; rfl)]
        simp
    have arr : ∀ (row2 : List Int) k', 16 * d + 51 ≤ k' → row2.length ≤ 5000 → row2 ++ arrFrom l 0 i = rowAt l i before left row → spec_RoundOrder.j3 k' l out left row2 i = some (out ++ roundP l (d + 1) i before left row) := by
      intro row2 k' hk' hr2 hre
      obtain ⟨k', rfl⟩ : ∃ m, k' = m + 1 := ⟨k' - 1, by omega⟩
      rw [spec_RoundOrder.j3]
      refine spec_Round_arr l h8 left out i _ (16 * d + 40) l 0 k' row2 rfl (by omega) (by omega) (by omega) (fun k'' hk'' => ?_)
      rw [show ((0 : Nat) : Int) = 0 from rfl, hre]
      exact fin k'' hk''
    rw [spec_RoundOrder.l1, spec_LastLeave_is l hok _ (by omega)]
    simp only [Option.bind_some]
    rw [hnl, if_pos (by omega)]
    by_cases hb : before ≥ 0
    · rw [if_pos hb, if_pos (show (0 : Int) ≤ before from hb), if_pos (by rw [hI.ll]; exact hI.bh), spec_RoundOrder.j2]
      rw [show rd left before = left.getD before.toNat 0 from rfl]
      by_cases hp : left.getD before.toNat 0 > 0
      · rw [if_pos (by rw [decide_eq_true_eq]; exact hp), if_pos (by omega)]
        refine arr (row ++ [before]) (k + 1) (by omega) (by rw [List.length_append]; simp; omega) ?_
        unfold rowAt
        rw [if_pos ⟨hb, hp⟩]
      · rw [if_neg (by rw [decide_eq_true_eq]; exact hp)]
        refine arr row (k + 1) (by omega) (by omega) ?_
        unfold rowAt
        rw [if_neg (fun h => hp h.2)]
        simp
    · rw [if_neg hb, spec_RoundOrder.j2, if_neg (by simp)]
      refine arr row (k + 1) (by omega) (by omega) ?_
      unfold rowAt
      rw [if_neg (fun h => hb h.1)]
      simp
theorem spec_Round_left (l : List S43) (hl : l.length ≤ 1048576) (r : List Int) (K : Nat) (hnext : ∀ k, K ≤ k → spec_RoundOrder.l1 k l [] (needs l) [] (-1) 0 = some r) : ∀ (suf : List S43) (i k : Nat) (out : List Int), l.drop i = suf → K + suf.length + 1 ≤ k → i ≤ l.length → out = needs (l.take i) → spec_RoundOrder.l0 k l [] out i = some r := by
  intro suf
  induction suf with
  | nil =>
    intro i k out hd hk hi ho
    obtain ⟨k, rfl⟩ : ∃ m, k = m + 1 := ⟨k - 1, by omega⟩
    have := drop_nil hd
    rw [spec_RoundOrder.l0]
    rw [if_neg (by omega), ho, List.take_of_length_le (by omega)]
    exact hnext k (by simp at hk; omega)
  | cons x xs ih =>
    intro i k out hd hk hi ho
    obtain ⟨k, rfl⟩ : ∃ m, k = m + 1 := ⟨k - 1, by omega⟩
    obtain ⟨hlt, hd2, hx⟩ := drop_split hd
    rw [spec_RoundOrder.l0]
    have hol : out.length = i := by rw [ho, needs_length, List.length_take]; omega
    rw [if_pos (by omega), if_pos (by omega), if_pos (by omega), rd_Customer_nat, hx, w64s i (by omega)]
    exact ih (i + 1) k _ hd2 (by simp at hk; omega) (by omega) (by rw [ho, take_succ_getD hlt z43, hx]; simp [needs])
theorem spec_RoundOrder_is (l : List S43) (hl : l.length ≤ 1048576) (k : Nat) (hk : l.length + 3000 ≤ k) : spec_RoundOrder.f k l = some (roundOrderP l) := by
  unfold spec_RoundOrder.f roundOrderP
  simp only [Option.bind_some]
  rw [spec_CustomersOk_is l hl k (by omega)]
  simp only [Option.bind_some]
  by_cases hok : custOk l = true
  · have hb := lastP_bound l hok
    rw [if_pos hok, if_pos hok]
    refine spec_Round_left l hl _ 2900 (fun k hk => ?_) l 0 k [] rfl (by omega) (by omega) rfl
    exact spec_Round_loop l hok (lastP l).toNat (by omega) (by omega) (lastP l).toNat 0 k (-1) (needs l) [] [] (by omega) (by omega) (RoundInv.start hok) rfl
  · rw [if_neg hok, if_neg hok]

/-! setdrop -/
theorem set_append_drop {α : Type} (X : List α) (v : α) {i : Nat} (h : i < X.length) : (X.set i v).take (i + 1) = X.take i ++ [v] ∧ (X.set i v).drop (i + 1) = X.drop (i + 1) := by
  constructor
  · rw [List.take_succ_eq_append_getElem (by rw [List.length_set]; exact h), List.take_set_of_le (Nat.le_refl _), List.getElem_set_self]
  · rw [List.drop_set_of_lt (by omega)]

/-! exactcust -/
theorem szCustomerS_is (l : List S53) (hl : l.length ≤ maxLen) (a : Int) (h0 : 0 ≤ a) (h1 : a ≤ 1048576) : laws_szCustomerS.f l a = some (if (l.length : Int) ≤ a then a - l.length else -1) := by
  unfold maxLen at hl
  unfold laws_szCustomerS.f
  rw [show wrap64 (a - (l.length : Int)) = a - l.length from w64 (by omega) (by omega)]
  by_cases h : (l.length : Int) ≤ a
  · rw [if_neg (by omega), if_pos h]
  · rw [if_pos (by omega), if_neg h]
def toC (c : S53) : S43 := ⟨c.f0, c.f1⟩
theorem rd_LCustomer_nat (l : List S53) (i : Nat) : rd_T53 l (i : Int) = l.getD i z53 := by
  unfold rd_T53
  rw [Int.toNat_natCast]
theorem toCustomerS_loop (l : List S53) (hl : l.length ≤ 1048576) : ∀ (suf : List S53) (i k : Nat) (X : List S43), l.drop i = suf → suf.length < k → i ≤ l.length → X.length = l.length →
    laws_toCustomerS.l0 k l X i = some (X.take i ++ suf.map toC) := by
  intro suf
  induction suf with
  | nil =>
    intro i k X hd hk hi hX
    obtain ⟨k, rfl⟩ : ∃ m, k = m + 1 := ⟨k - 1, by omega⟩
    have := drop_nil hd
    simp only [laws_toCustomerS.l0]
    rw [if_neg (by omega), List.take_of_length_le (by omega)]
    simp
  | cons x xs ih =>
    intro i k X hd hk hi hX
    obtain ⟨k, rfl⟩ : ∃ m, k = m + 1 := ⟨k - 1, by omega⟩
    obtain ⟨hlt, hd2, hx⟩ := drop_split hd
    simp only [laws_toCustomerS.l0, laws_toCustomer.f, Option.bind_some]
    rw [if_pos (by omega), if_pos (by omega), if_pos (by omega), rd_LCustomer_nat, hx, w64s i (by omega), Int.toNat_natCast]
    obtain ⟨e1, -⟩ := set_append_drop X (⟨x.f0, x.f1⟩ : S43) (i := i) (by omega)
    rw [ih (i + 1) k _ hd2 (by simp at hk; omega) (by omega) (by rw [List.length_set]; exact hX), e1]
    simp [toC]
theorem toCustomerS_is (l : List S53) (hl : l.length ≤ 1048576) (k : Nat) (hk : l.length < k) : laws_toCustomerS.f k l = some (l.map toC) := by
  unfold laws_toCustomerS.f
  rw [if_pos (by omega), if_pos (by omega)]
  exact toCustomerS_loop l hl l 0 k _ rfl hk (by omega) (by simp)
theorem eqCustomerS_loop (a : List S43) (ha : a.length ≤ 1048576) : ∀ (suf : List S43) (i k : Nat), a.drop i = suf → suf.length < k → laws_eqCustomerS.l0 k a a i = some true := by
  intro suf
  induction suf with
  | nil =>
    intro i k hd hk
    obtain ⟨k, rfl⟩ : ∃ m, k = m + 1 := ⟨k - 1, by omega⟩
    have := drop_nil hd
    simp only [laws_eqCustomerS.l0]
    rw [if_neg (by omega)]
  | cons x xs ih =>
    intro i k hd hk
    obtain ⟨k, rfl⟩ : ∃ m, k = m + 1 := ⟨k - 1, by omega⟩
    obtain ⟨hlt, hd2, hx⟩ := drop_split hd
    have e : ∀ p q, laws_eqCustomer.f p q p q = some true := by intro p q; unfold laws_eqCustomer.f; rw [if_pos rfl, if_pos rfl]
    simp only [laws_eqCustomerS.l0]
    rw [if_pos (by omega), if_pos (by omega), if_pos (by omega), e]
    simp only [Option.bind_some]
    rw [if_pos trivial, w64s i (by omega), ih (i + 1) k hd2 (by simp at hk; omega)]
theorem eqCustomerS_is (a : List S43) (ha : a.length ≤ 1048576) (k : Nat) (hk : a.length < k) : laws_eqCustomerS.f k a a = some true := by
  unfold laws_eqCustomerS.f
  rw [if_pos rfl]
  exact eqCustomerS_loop a ha a 0 k rfl hk

/-! markcust -/
theorem markCustomerS_loop : ∀ (d i k : Nat) (X : List S43) (m : Int), i + d = X.length → X.length ≤ 1048576 → d < k → 0 ≤ m → m + 2 * d ≤ 1000000000 → ∃ r, laws_markCustomerS.l0 k X m i = some (m + 2 * d, r) ∧ r.length = X.length := by
  intro d
  induction d with
  | zero =>
    intro i k X m he hl hk h0 h1
    obtain ⟨k, rfl⟩ : ∃ m, k = m + 1 := ⟨k - 1, by omega⟩
    simp only [laws_markCustomerS.l0]
    rw [if_neg (by omega)]
    exact ⟨X, by simp, rfl⟩
  | succ d ih =>
    intro i k X m he hl hk h0 h1
    obtain ⟨k, rfl⟩ : ∃ m, k = m + 1 := ⟨k - 1, by omega⟩
    simp only [laws_markCustomerS.l0, Option.bind_some]
    rw [if_pos (by omega), if_pos (by omega), show wrap64 (m + 1) = m + 1 from w64 (by omega) (by omega), show wrap64 (m + 1 + 1) = m + 2 from by rw [w64 (by omega) (by omega)]; omega, w64s i (by omega)]
    have key : ∀ Y : List S43, Y.length = X.length → ∃ r, laws_markCustomerS.l0 k Y (m + 2) ((i + 1 : Nat) : Int) = some (m + 2 * ((d + 1 : Nat) : Int), r) ∧ r.length = X.length := by
      intro Y hY
      obtain ⟨r, hr, hl2⟩ := ih (i + 1) k Y (m + 2) (by omega) (by omega) (by omega) (by omega) (by omega)
      refine ⟨r, ?_, by omega⟩
      rw [hr]
      congr 2
      omega
    exact key _ (by rw [List.length_set, List.length_set])
theorem markCustomerS_is (l : List S43) (hl : l.length ≤ 1048576) (k : Nat) (hk : l.length < k) : ∃ n r, laws_markCustomerS.f k l 1 = some (n, r) ∧ 0 ≤ n ∧ n ≤ 10000000 := by
  unfold laws_markCustomerS.f
  obtain ⟨r, hr, -⟩ := markCustomerS_loop l.length 0 k l 1 (by omega) hl hk (by omega) (by omega)
  exact ⟨_, r, hr, by omega, by omega⟩

/-! markint -/
def seqFrom : Int → Nat → List Int
  | _, 0 => []
  | m, n + 1 => m :: seqFrom (m + 1) n
theorem seqFrom_length : ∀ (n : Nat) (m : Int), (seqFrom m n).length = n := by
  intro n
  induction n with
  | zero => intro m; rfl
  | succ n ih => intro m; simp [seqFrom, ih]
theorem markIntS_loop : ∀ (d i k : Nat) (X : List Int) (m : Int), i + d = X.length → X.length ≤ 1048576 → d < k → 0 ≤ m → m + d ≤ 1000000000 → laws_markIntS.l0 k X m i = some (m + d, X.take i ++ seqFrom m d) := by
  intro d
  induction d with
  | zero =>
    intro i k X m he hl hk h0 h1
    obtain ⟨k, rfl⟩ : ∃ m, k = m + 1 := ⟨k - 1, by omega⟩
    simp only [laws_markIntS.l0]
    rw [if_neg (by omega), List.take_of_length_le (by omega)]
    simp [seqFrom]
  | succ d ih =>
    intro i k X m he hl hk h0 h1
    obtain ⟨k, rfl⟩ : ∃ m, k = m + 1 := ⟨k - 1, by omega⟩
    simp only [laws_markIntS.l0]
    rw [if_pos (by omega), if_pos (by omega), show wrap64 (m + 1) = m + 1 from w64 (by omega) (by omega), w64s i (by omega), Int.toNat_natCast]
    obtain ⟨e1, -⟩ := set_append_drop X m (i := i) (by omega)
    rw [ih (i + 1) k _ (m + 1) (by rw [List.length_set]; omega) (by rw [List.length_set]; omega) (by omega) (by omega) (by omega), e1]
    simp only [seqFrom, List.append_assoc, List.singleton_append]
    congr 2
    omega
theorem markIntS_is (l : List Int) (hl : l.length ≤ 1048576) (k : Nat) (hk : l.length < k) : laws_markIntS.f k l 1 = some (1 + (l.length : Int), seqFrom 1 l.length) := by
  unfold laws_markIntS.f
  exact markIntS_loop l.length 0 k l 1 (by omega) hl hk (by omega) (by omega)

/-! heldint -/
theorem heldIntS_loop (X : List Int) (hl : X.length ≤ 1048576) : ∀ (d i k : Nat) (m : Int), i + d = X.length → d < k → 0 ≤ m → m + d ≤ 1000000000 → X.drop i = seqFrom m d → laws_heldIntS.l0 k X m i = some (m + d) := by
  intro d
  induction d with
  | zero =>
    intro i k m he hk h0 h1 hX
    obtain ⟨k, rfl⟩ : ∃ m, k = m + 1 := ⟨k - 1, by omega⟩
    simp only [laws_heldIntS.l0]
    rw [if_neg (by omega)]
    simp
  | succ d ih =>
    intro i k m he hk h0 h1 hX
    obtain ⟨k, rfl⟩ : ∃ m, k = m + 1 := ⟨k - 1, by omega⟩
    obtain ⟨hlt, hd2, hx⟩ := drop_split (show X.drop i = m :: seqFrom (m + 1) d from hX)
    simp only [laws_heldIntS.l0]
    rw [if_pos (by omega), if_pos (by omega), rd_nat, hx, if_pos rfl, show wrap64 (m + 1) = m + 1 from w64 (by omega) (by omega), w64s i (by omega), ih (i + 1) k (m + 1) (by omega) (by omega) (by omega) (by omega) hd2]
    congr 1
    omega
theorem heldIntS_is (n : Nat) (hn : n ≤ 1048576) (k : Nat) (hk : n < k) : laws_heldIntS.f k (seqFrom 1 n) 1 = some (1 + (n : Int)) := by
  unfold laws_heldIntS.f
  exact heldIntS_loop _ (by rw [seqFrom_length]; exact hn) n 0 k 1 (by rw [seqFrom_length]; omega) hk (by omega) (by omega) rfl

/-! eqint -/
theorem eqIntS_loop (a : List Int) (ha : a.length ≤ 1048576) : ∀ (suf : List Int) (i k : Nat), a.drop i = suf → suf.length < k → laws_eqIntS.l0 k a a i = some true := by
  intro suf
  induction suf with
  | nil =>
    intro i k hd hk
    obtain ⟨k, rfl⟩ : ∃ m, k = m + 1 := ⟨k - 1, by omega⟩
    have := drop_nil hd
    simp only [laws_eqIntS.l0]
    rw [if_neg (by omega)]
  | cons x xs ih =>
    intro i k hd hk
    obtain ⟨k, rfl⟩ : ∃ m, k = m + 1 := ⟨k - 1, by omega⟩
    obtain ⟨hlt, hd2, hx⟩ := drop_split hd
    simp only [laws_eqIntS.l0]
    rw [if_pos (by omega), if_pos (by omega), if_pos (by omega), if_pos trivial, w64s i (by omega), ih (i + 1) k hd2 (by simp at hk; omega)]
theorem eqIntS_is (a : List Int) (ha : a.length ≤ 1048576) (k : Nat) (hk : a.length < k) : laws_eqIntS.f k a a = some true := by
  unfold laws_eqIntS.f
  rw [if_pos rfl]
  exact eqIntS_loop a ha a 0 k rfl hk

/-! law_ExactRoundOrder -/
theorem FnExactRoundOrder : laws_FnExactRoundOrder.Pure := by
  intro l0 hl
  by_cases hb : (l0.length : Int) ≤ 1048576
  · have hm : (l0.map toC).length ≤ 1048576 := by rw [List.length_map]; omega
    have hm2 : (l0.map toC).length = l0.length := by rw [List.length_map]
    generalize hR : roundOrderP (l0.map toC) = R
    have hRl : R.length ≤ 200 := by
      rw [← hR]
      unfold roundOrderP
      split
      · rename_i hok
        have := lastP_bound _ hok
        rw [roundP_length]; omega
      · simp
    have e1 : ∀ k, l0.length + 3000 ≤ k → impl_RoundOrder.f k (l0.map toC) = some R := fun k hk => by rw [impl_RoundOrder_is _ hm k (by omega), hR]
    have e2 : ∀ k, l0.length + 3000 ≤ k → spec_RoundOrder.f k (l0.map toC) = some R := fun k hk => by rw [spec_RoundOrder_is _ hm k (by omega), hR]
    obtain ⟨n, r, em, hn, -⟩ := markCustomerS_is (l0.map toC) hm (l0.length + 3010) (by omega)
    refine ⟨l0.length + 3010, ?_⟩
    unfold laws_FnExactRoundOrder.f
    rw [szCustomerS_is l0 hl.1 1048576 (by omega) (by omega), if_pos hb]; simp only [Option.bind_some]
    rw [if_neg (by omega), toCustomerS_is l0 (by omega) _ (by omega)]; simp only [Option.bind_some]
    rw [e1 _ (by omega), e2 _ (by omega)]; simp only [Option.bind_some]
    rw [eqIntS_is R (by omega) _ (by omega), eqCustomerS_is _ hm _ (by omega), em]; simp only [Option.bind_some]
    rw [if_pos trivial, if_pos trivial, if_neg (by omega)]
    simp only [laws_FnExactRoundOrder.j0]
    rw [if_neg (by simp), markIntS_is R (by omega) _ (by omega)]; simp only [Option.bind_some]
    rw [heldIntS_is R.length (by omega) _ (by omega)]; simp only [Option.bind_some]
    rw [if_neg (by omega), if_pos trivial, toCustomerS_is l0 (by omega) _ (by omega)]; simp only [Option.bind_some]
    rw [e1 _ (by omega)]; simp only [Option.bind_some]
    rw [eqIntS_is R (by omega) _ (by omega)]; simp only [Option.bind_some]
    rw [if_pos trivial, if_neg (by omega), if_pos trivial]
  · refine ⟨0, ?_⟩
    unfold laws_FnExactRoundOrder.f
    rw [szCustomerS_is l0 hl.1 1048576 (by omega) (by omega), if_neg hb]; rfl

end Go.Proofs.Ytbljbcgooenjfaa.Pure
